import Derived.Test.YtanighkpfmgnbaaGreatDoorProg
import Derived.Test.YtanighkpfmgnbaaGreatDoorMA2
import Derived.Test.YtanighkpfmgnbaaGreatDoorMB1
import Derived.Test.YtanighkpfmgnbaaGreatDoorMA3
import Derived.Test.YtanighkpfmgnbaaGreatDoorMB2
import Derived.Test.YtanighkpfmgnbaaGreatDoorMB3
set_option linter.unusedVariables false
set_option linter.unusedSimpArgs false
set_option linter.unnecessarySimpa false
set_option maxRecDepth 100000
namespace Go.Proofs.YtanighkpfmgnbaaGreatDoor
open Go Go.Fen
theorem E3a:ApTy Tryz.prog 65 73 12 96:=⟨by kernel_rfl,by kernel_rfl,rfl⟩
theorem E1w:ApTy Tryz.prog 160 4 1 1:=⟨by kernel_rfl,by kernel_rfl,rfl⟩
theorem C8l:SlTy Tryz.prog 65 73 12:=⟨by kernel_rfl,by kernel_rfl⟩
theorem E1r:SlTy Tryz.prog 160 4 1:=⟨by kernel_rfl,by kernel_rfl⟩
theorem E5c:Ty Tryz.prog 73 12 true:=⟨by kernel_rfl⟩
theorem D1z:Ty Tryz.prog 115 2 true:=⟨by kernel_rfl⟩
theorem E2u:Ty Tryz.prog 159 13 true:=⟨by kernel_rfl⟩
theorem E4h:Zero Tryz.prog 4 [bv false]:=⟨by kernel_rfl⟩
theorem E0q:Zero Tryz.prog 73 (A2i Cel.zero):=⟨by kernel_rfl⟩
structure Cur where
 row:Int
 col:Int
 wrap:Bool
deriving DecidableEq
def O0 (x:Cur):List Value:=[.int .i64 x.row,.int .i64 x.col,.bool x.wrap]
def Cur.zero:Cur:=⟨0,0,false⟩
theorem O0.inj (x y:Cur) (h:O0 x=O0 y):x=y:=by
 rcases x with ⟨_,_,_⟩
 rcases y with ⟨_,_,_⟩
 simp [O0,bs] at h
 simp_all
structure Pth where
 frm:Cur
 to_:Plc
deriving DecidableEq
def F2 (x:Pth):List Value:=O0 x.frm++(P3 x.to_)
def Pth.zero:Pth:=⟨Cur.zero,Plc.zero⟩
theorem F2.inj (x y:Pth) (h:F2 x=F2 y):x=y:=by
 rcases x with ⟨⟨_,_,_⟩,⟨_,_⟩⟩
 rcases y with ⟨⟨_,_,_⟩,⟨_,_⟩⟩
 simp [O0,P3,F2,bs] at h
 simp_all
def C3b:Bool×Bool×Bool×Bool×Bool×Bool×Bool×Bool×Bool×Bool×Bool×Int×Bool :=
 (false,false,false,false,false,true,true,false,false,false,false,0,false)
theorem D0h (R:Bool×Bool×Bool×Bool×Bool×Bool×Bool×Bool×Bool×Bool×Bool×Int×Bool) (hR:C3b=R):M6 Tryz.prog 149 [] [] (ag [bv R.1,bv R.2.1,bv R.2.2.1,bv R.2.2.2.1,bv R.2.2.2.2.1,bv R.2.2.2.2.2.1,bv R.2.2.2.2.2.2.1,bv R.2.2.2.2.2.2.2.1,bv R.2.2.2.2.2.2.2.2.1,bv R.2.2.2.2.2.2.2.2.2.1,bv R.2.2.2.2.2.2.2.2.2.2.1,iv R.2.2.2.2.2.2.2.2.2.2.2.1,bv R.2.2.2.2.2.2.2.2.2.2.2.2]):=by
 refine zco Tryz.func149 [] fun X hX hr hD=>?_
 replace hR:=(C3b.eq_1 ..).symm.trans hR
 refine sr 1 rfl (Q9 1 0 [] (fun b1=>[(0,pt b1 0)]) (fun b1=>[bx b1 [bv false,bv false,bv false,bv false,bv false,bv false,bv false,bv false,bv false,bv false,bv false,iv 0,bv false] 159]) (fun b1=>(ie (sr 2 rfl (zrg 2 0 [0] [] [bx b1 [bv false,bv false,bv false,bv false,bv false,bv true,bv true,bv false,bv false,bv false,bv false,iv 0,bv false] 159] ?_)))))
 subst hR
 refine ie (B1 ?_)
 exact zer hr hD (P5 rfl (G1 (us:=[bv false,bv false,bv false,bv false,bv false,bv true,bv true,bv false,bv false,bv false,bv false,iv 0,bv false]) E2u rfl 0 rfl rfl rfl)) () (mk [false] rfl) fn0
def A9t (cols:Int):Nat→List Bool→Nat→(List Bool×Int)
 | 0,_,_=>([],0)
 | fu1+1,t,k=>(bif (decide ((k:Int)<cols)) then A9t cols fu1 (t.set k true) (k+8) else (t,0))
def C1t (cols:Int):List Bool×Int :=
 (bif ((decide (cols<2))||(decide ((80:Int)<cols))) then (([]:List Bool),2) else A9t cols ((cols - (8:Int)).toNat+1) (List.replicate ((cols).toNat) false) 8)
theorem C9k (cols:Int) (R:List Bool×Int) (hR:C1t cols=R):Con Tryz.prog 148 [iv cols] [] [] ({r:VR // VOk 1 R.1.length r}) (fun x=>.tuple #[.slice (va x.1.q) R.1.length x.1.k,iv R.2]) (fun x=>((vo A8w 4 x.1 R.1)++([]))) (fun x=>[]):=by
 refine zco Tryz.func148 [(0,iv cols)] fun X hX hr hD=>?_
 replace hR:=(C1t.eq_1 ..).symm.trans hR
 refine sr 2 rfl (ip' 2 0 [] (ie (A7 (sr 6 rfl (ip' 3 3 [(8,bv (decide (cols<2)))] ?_)))))
 refine zir 3 0 8 11 (decide ((80:Int)<cols)) (fun g1 g1p=>?_) ?_
 ·refine ip' 3 0 [(11,bv (decide ((80:Int)<cols)))] ?_
  exact A6 (X8 2 8 11 g1 fn0 (mk [] rfl) rfl rfl rfl rfl rfl)
 refine ie ?_
 refine zjo rfl hR ?_ ?_<;>clear hR<;>intro hR h2 h2p
 ·refine sr 2 rfl (ip' 2 0 [(2,.slice none 0 0),(3,iv 2)] ?_)
  subst hR
  refine ie (B1 ?_)
  exact zer hr hD (A4c rfl (C0 rfl) (C0 rfl)) ⟨VR.nil,VOk.nil⟩ (mc [vo A8w 4 VR.nil ([]:List Bool)] [true] rfl (by first|rfl|(simp only [List.length_set]<;>rfl))) fn0
 refine A9 (nx (sr 3 rfl (ip' 1 2 [(12,iv cols)] (it rfl (C3h (f:=A8w) (l:=(cols).toNat) (c:=(cols).toNat) false E1w E4h.ok (fun _=>rfl) rfl (by exact congrArg (fun z=>some (Value.int .i64 z)) (show cols=(((cols).toNat:Nat):Int) by omega)) (by exact congrArg (fun z=>some (Value.int .i64 z)) (show cols=(((cols).toNat:Nat):Int) by omega)) (by omega) (by first|omega|(simp<;>omega)) (by omega)) fun ⟨r3,hr4⟩=>?_))))
 have:(List.replicate ((cols).toNat) false).length=((cols).toNat):=List.length_replicate
 have:=VOk.le hr4
 have:=VOk.cap hr4
 have:(List.replicate ((cols).toNat) false).length=((cols).toNat):=List.length_replicate
 refine ip' 1 0 [(4,.slice (va r3.q) ((List.replicate ((cols).toNat) false).length) r3.k)] (ie (A7 (sr 1 rfl (ip' 1 0 [(5,iv 8)] (ie (B2 ?_))))))
 refine B8v (fun (fu:Nat) (t:List Bool) (tr:VR) (k:Nat)=>((cols - (k:Int)).toNat<fu∧A9t cols fu t k=R∧VOk 1 t.length tr∧t.length=cols.toNat,[(0,iv cols),(4,.slice (va tr.q) t.length tr.k),(5,iv (k:Int))],((vo A8w 4 tr t)++([])),[],fu)) ((cols - (8:Int)).toNat+1) (List.replicate ((cols).toNat) false) r3 8 ⟨(Nat.lt_succ_self _),hR,hr4,(by exact List.length_replicate)⟩ (mc [vo A8w 4 r3 (List.replicate ((cols).toNat) false)] [true] rfl (by first|rfl|(simp only [List.length_set]<;>rfl))) fn0 ?_
 rintro fu t tr k ⟨hm5,hR,hoktr,ht⟩
 have:=VOk.le hoktr
 obtain ⟨fu1,rfl⟩:∃ m,fu=m+1:=⟨fu - 1,by omega⟩
 replace hR:=(A9t.eq_2 ..).symm.trans hR
 refine A7 (sr 3 rfl (ip' 3 0 [(16,bv (decide ((k:Int)<cols)))] ?_))
 refine ie ?_
 refine zjd rfl hR ?_ ?_<;>clear hR<;>intro hR h6 h6p
 ·refine A9 (nx (A7 (B2 (A4 4 rfl (ip' 2 2 [(19,.slice (va tr.q) t.length tr.k),(20,iv (k:Int))] ?_)))))
  obtain ⟨b7,hb8⟩:=VOk.some hoktr (by omega)
  obtain ⟨q9,k10,j11⟩:=tr
  obtain rfl:q9=some b7:=hb8
  refine ix rfl (C1w E1r rfl rfl rfl k rfl (by omega)) (it rfl (B5h (us:=[bv true]) (u':=true) (c:=A8w) (sz:=1) ty4 (fun _=>rfl) rfl rfl rfl 0 rfl rfl rfl rfl k 0 rfl (gd false (by omega)) rfl rfl) fun _=>?_)
  refine A6 (nx (A4 3 rfl (ip' 1 2 [(17,iv (k:Int))] (ix rfl (B6 rfl rfl rfl rfl (by omega)) (ip' 1 0 [(5,iv ((k:Int)+8))] (A6 ?_))))))
  exact B5b (z1:=(fu1+1)) (z2:=t) (z3:=(⟨some b7,k10,j11⟩:VR)) (z4:=k) fu1 (t.set k true) (⟨some b7,k10,j11⟩:VR) (k+8) ⟨(by omega),hR,(VOk.cast hoktr (by simp)),(by (rw [List.length_set];exact ht))⟩ (Nat.lt_succ_self _) (mc [vo A8w 4 (⟨some b7,k10,j11⟩:VR) (t.set k true)] [true] rfl (by first|rfl|(simp only [List.length_set]<;>rfl))) fn0
 refine J5 (nx (sr 3 rfl (ip' 3 0 [(2,.slice (va tr.q) t.length tr.k),(3,iv 0)] ?_)))
 subst hR
 refine ie (B1 ?_)
 exact zer hr hD (A4c rfl (C0 rfl) (C0 rfl)) ⟨tr,hoktr⟩ (mc [vo A8w 4 tr t] [true] rfl (by first|rfl|(simp only [List.length_set]<;>rfl))) fn0
def A7y (s:Sty):Cel :=
 {Cel.zero with base:=32,sty:=s}
theorem C7q (s:Sty) (R:Cel) (hR:A7y s=R):M6 Tryz.prog 229 [ag (U9 s)] [] (ag (A2i R)):=by
 refine zco Tryz.func229 [(0,ag (U9 s))] fun X hX hr hD=>?_
 replace hR:=(A7y.eq_1 ..).symm.trans hR
 refine sr 2 rfl (C0k 2 0 [] (fun b1 b2=>[(1,pt b1 0),(2,pt b2 0)]) (fun b1 b2=>[bx b2 (A2i Cel.zero) 73,bx b1 (U9 s) 67]) (fun b1 b2=>(ie (sr 3 rfl (zrg 3 0 [1,0] [] [bx b2 (A2i ({Cel.zero with base:=32,sty:=s})) 73,bx b1 (U9 s) 67] ?_)))))
 subst hR
 refine ie (B1 ?_)
 exact zer hr hD (P5 rfl (G1 (us:=A2i ({Cel.zero with base:=32,sty:=s})) E5c rfl 0 rfl rfl rfl)) () (mk [false,false] rfl) fn0
def A7a (x:Int) (y:Int):Int×Int :=
 ((IntKind.u64.wrap ((IntKind.u64.wrap ((IntKind.u64.wrap ((x / 4294967296) * (y / 4294967296)))+((IntKind.u64.wrap ((IntKind.u64.wrap ((x / 4294967296) * (bOp .and .u64 y 4294967295)))+((IntKind.u64.wrap ((bOp .and .u64 x 4294967295) * (bOp .and .u64 y 4294967295))) / 4294967296))) / 4294967296)))+((IntKind.u64.wrap ((bOp .and .u64 (IntKind.u64.wrap ((IntKind.u64.wrap ((x / 4294967296) * (bOp .and .u64 y 4294967295)))+((IntKind.u64.wrap ((bOp .and .u64 x 4294967295) * (bOp .and .u64 y 4294967295))) / 4294967296))) 4294967295)+(IntKind.u64.wrap ((bOp .and .u64 x 4294967295) * (y / 4294967296))))) / 4294967296))),(IntKind.u64.wrap (x * y)))
theorem B7r (x:Int) (y:Int) (R:Int×Int) (hR:A7a x y=R):M6 Tryz.prog 99 [.int .u64 x,.int .u64 y] [] (.tuple #[.int .u64 R.1,.int .u64 R.2]):=by
 refine zco Tryz.func99 [(0,.int .u64 x),(1,.int .u64 y)] fun X hX hr hD=>?_
 replace hR:=(A7a.eq_1 ..).symm.trans hR
 refine sr 2 rfl (ip' 2 0 [] (ie (sr 3 rfl (ip' 3 0 [(6,.int .u64 (bOp .and .u64 x 4294967295))] (ie (sr 3 rfl (ip' 1 2 [(16,.int .u64 x)] ?_)))))))
 refine ix rfl (P0 (c:=x / 4294967296) rfl rfl rfl (by decide) (by simp [Int.fdiv_eq_ediv_of_nonneg,IntKind.bits])) (ip' 1 0 [(7,.int .u64 (x / 4294967296))] (ie (sr 3 rfl (ip' 3 0 [(8,.int .u64 (bOp .and .u64 y 4294967295))] (ie (sr 3 rfl (ip' 1 2 [(20,.int .u64 y)] ?_)))))))
 refine ix rfl (P0 (c:=y / 4294967296) rfl rfl rfl (by decide) (by simp [Int.fdiv_eq_ediv_of_nonneg,IntKind.bits])) (ip' 1 0 [(9,.int .u64 (y / 4294967296))] (ie (sr 4 rfl (ip' 4 0 [(10,.int .u64 (IntKind.u64.wrap ((bOp .and .u64 x 4294967295) * (bOp .and .u64 y 4294967295))))] (ie (sr 7 rfl (ip' 4 3 [(27,.int .u64 (IntKind.u64.wrap ((x / 4294967296) * (bOp .and .u64 y 4294967295)))),(28,.int .u64 (IntKind.u64.wrap ((bOp .and .u64 x 4294967295) * (bOp .and .u64 y 4294967295))))] ?_)))))))
 refine ix rfl (P0 (c:=(IntKind.u64.wrap ((bOp .and .u64 x 4294967295) * (bOp .and .u64 y 4294967295))) / 4294967296) rfl rfl rfl (by decide) (by simp [Int.fdiv_eq_ediv_of_nonneg,IntKind.bits])) (ip' 2 0 [(11,.int .u64 (IntKind.u64.wrap ((IntKind.u64.wrap ((x / 4294967296) * (bOp .and .u64 y 4294967295)))+((IntKind.u64.wrap ((bOp .and .u64 x 4294967295) * (bOp .and .u64 y 4294967295))) / 4294967296))))] (ie (sr 3 rfl (ip' 3 0 [(12,.int .u64 (bOp .and .u64 (IntKind.u64.wrap ((IntKind.u64.wrap ((x / 4294967296) * (bOp .and .u64 y 4294967295)))+((IntKind.u64.wrap ((bOp .and .u64 x 4294967295) * (bOp .and .u64 y 4294967295))) / 4294967296))) 4294967295))] (ie (sr 3 rfl (ip' 1 2 [(33,.int .u64 (IntKind.u64.wrap ((IntKind.u64.wrap ((x / 4294967296) * (bOp .and .u64 y 4294967295)))+((IntKind.u64.wrap ((bOp .and .u64 x 4294967295) * (bOp .and .u64 y 4294967295))) / 4294967296))))] ?_)))))))
 refine ix rfl (P0 (c:=(IntKind.u64.wrap ((IntKind.u64.wrap ((x / 4294967296) * (bOp .and .u64 y 4294967295)))+((IntKind.u64.wrap ((bOp .and .u64 x 4294967295) * (bOp .and .u64 y 4294967295))) / 4294967296))) / 4294967296) rfl rfl rfl (by decide) (by simp [Int.fdiv_eq_ediv_of_nonneg,IntKind.bits])) (ip' 1 0 [(13,.int .u64 ((IntKind.u64.wrap ((IntKind.u64.wrap ((x / 4294967296) * (bOp .and .u64 y 4294967295)))+((IntKind.u64.wrap ((bOp .and .u64 x 4294967295) * (bOp .and .u64 y 4294967295))) / 4294967296))) / 4294967296))] (ie (sr 6 rfl (ip' 6 0 [(12,.int .u64 (IntKind.u64.wrap ((bOp .and .u64 (IntKind.u64.wrap ((IntKind.u64.wrap ((x / 4294967296) * (bOp .and .u64 y 4294967295)))+((IntKind.u64.wrap ((bOp .and .u64 x 4294967295) * (bOp .and .u64 y 4294967295))) / 4294967296))) 4294967295)+(IntKind.u64.wrap ((bOp .and .u64 x 4294967295) * (y / 4294967296))))))] (ie (sr 9 rfl (ip' 6 3 [(44,.int .u64 (IntKind.u64.wrap ((IntKind.u64.wrap ((x / 4294967296) * (y / 4294967296)))+((IntKind.u64.wrap ((IntKind.u64.wrap ((x / 4294967296) * (bOp .and .u64 y 4294967295)))+((IntKind.u64.wrap ((bOp .and .u64 x 4294967295) * (bOp .and .u64 y 4294967295))) / 4294967296))) / 4294967296)))),(45,.int .u64 (IntKind.u64.wrap ((bOp .and .u64 (IntKind.u64.wrap ((IntKind.u64.wrap ((x / 4294967296) * (bOp .and .u64 y 4294967295)))+((IntKind.u64.wrap ((bOp .and .u64 x 4294967295) * (bOp .and .u64 y 4294967295))) / 4294967296))) 4294967295)+(IntKind.u64.wrap ((bOp .and .u64 x 4294967295) * (y / 4294967296))))))] ?_)))))))
 refine ix rfl (P0 (c:=(IntKind.u64.wrap ((bOp .and .u64 (IntKind.u64.wrap ((IntKind.u64.wrap ((x / 4294967296) * (bOp .and .u64 y 4294967295)))+((IntKind.u64.wrap ((bOp .and .u64 x 4294967295) * (bOp .and .u64 y 4294967295))) / 4294967296))) 4294967295)+(IntKind.u64.wrap ((bOp .and .u64 x 4294967295) * (y / 4294967296))))) / 4294967296) rfl rfl rfl (by decide) (by simp [Int.fdiv_eq_ediv_of_nonneg,IntKind.bits])) (ip' 2 0 [(4,.int .u64 (IntKind.u64.wrap ((IntKind.u64.wrap ((IntKind.u64.wrap ((x / 4294967296) * (y / 4294967296)))+((IntKind.u64.wrap ((IntKind.u64.wrap ((x / 4294967296) * (bOp .and .u64 y 4294967295)))+((IntKind.u64.wrap ((bOp .and .u64 x 4294967295) * (bOp .and .u64 y 4294967295))) / 4294967296))) / 4294967296)))+((IntKind.u64.wrap ((bOp .and .u64 (IntKind.u64.wrap ((IntKind.u64.wrap ((x / 4294967296) * (bOp .and .u64 y 4294967295)))+((IntKind.u64.wrap ((bOp .and .u64 x 4294967295) * (bOp .and .u64 y 4294967295))) / 4294967296))) 4294967295)+(IntKind.u64.wrap ((bOp .and .u64 x 4294967295) * (y / 4294967296))))) / 4294967296))))] (ie (sr 4 rfl (ip' 4 0 [(5,.int .u64 (IntKind.u64.wrap (x * y)))] ?_))))
 subst hR
 refine ie (B1 ?_)
 exact A7t hr hD
def A3n (x:Int) (y:Int):Int×Int :=
 (B4 (A7a x y) fun (y2:Int×Int)=>(y2.1,y2.2))
theorem wr6 {x:Int} (h:-1000000≤x∧x≤1000000):IntKind.i64.wrap x=x:=W3 (by show (-9223372036854775808:Int)≤_;omega) (by show _≤(9223372036854775807:Int);omega)
theorem D6i:∀ c<81,A3n 1 ((c:Nat):Int)=(0,((c:Nat):Int)):=by decide +kernel
theorem D7w (n:Nat) (c:Int) (hn:n=1) (hc:1≤c∧c≤80):A3n (IntKind.u64.wrap (n:Int)) (IntKind.u64.wrap c)=(0,c):=by
 obtain ⟨m,rfl⟩:∃ m:Nat,c=m:=⟨c.toNat,by omega⟩
 subst hn
 rw [W3 (k:=.u64) (by show (0:Int)≤_;omega) (by show _≤(18446744073709551615:Int);omega),W3 (k:=.u64) (by show (0:Int)≤_;omega) (by show _≤(18446744073709551615:Int);omega)]
 exact D6i m (by omega)
theorem C0m (x:Int) (y:Int) (R:Int×Int) (hR:A3n x y=R):M6 Tryz.prog 45 [.int .u64 x,.int .u64 y] [] (.tuple #[.int .u64 R.1,.int .u64 R.2]):=by
 refine zco Tryz.func45 [(0,.int .u64 x),(1,.int .u64 y)] fun X hX hr hD=>?_
 replace hR:=(A3n.eq_1 ..).symm.trans hR
 refine sr 2 rfl (ip' 2 0 [] (ie (A7 (A6n rfl (A9 (nx (sr 8 rfl (ip' 2 6 [(23,.int .u64 x),(24,.int .u64 y)] ?_))))))))
 have hQ:=E9 hR;clear hR;obtain ⟨y2,hy2,hR⟩:=hQ
 refine zca (B7r x y y2 hy2) fn0 (ip' 5 0 [(8,.int .u64 y2.1),(9,.int .u64 y2.2)] (ie (sr 4 rfl (ip' 4 0 [(4,.int .u64 y2.1),(5,.int .u64 y2.2)] ?_))))
 subst hR
 refine ie (B1 ?_)
 exact A7t hr hD
def N1:Nat→List Cel→Nat→List Cel
 | 0,_,_=>[]
 | fu1+1,newslice,n=>(bif (decide ((n:Int)<(newslice.length:Int))) then N1 fu1 (newslice.take n++(newslice.take (min n (newslice.length - n):Nat)++newslice.drop (n+(min n (newslice.length - n):Nat)))) (n+(min n (newslice.length - n):Nat)) else newslice)
def V4 (x:List Cel) (count:Int):List Cel :=
 (B4 (A3n (IntKind.u64.wrap (x.length:Int)) (IntKind.u64.wrap count)) fun (y0:Int×Int)=>N1 (((x.take (List.replicate ((IntKind.i64.wrap y0.2).toNat) Cel.zero).length++(List.replicate ((IntKind.i64.wrap y0.2).toNat) Cel.zero).drop x.length).length - (min x.length (List.replicate ((IntKind.i64.wrap y0.2).toNat) Cel.zero).length:Nat))+1) (x.take (List.replicate ((IntKind.i64.wrap y0.2).toNat) Cel.zero).length++(List.replicate ((IntKind.i64.wrap y0.2).toNat) Cel.zero).drop x.length) (min x.length (List.replicate ((IntKind.i64.wrap y0.2).toNat) Cel.zero).length:Nat))
theorem A4n (x:List Cel) (count:Int) (xq:Option Addr) (xk:Nat) (hlx:x.length≤9223372036854775807) (hcx:x.length≤xk) (hcn:1≤count∧count≤80) (hx1:x.length=1) (R:List Cel) (hR:V4 x count=R):Con Tryz.prog 228 [.slice xq x.length xk,iv count] [] [sl A2i xq x] ({r:VR // VOk 12 R.length r}) (fun x=>.slice (va x.1.q) R.length x.1.k) (fun x=>((vo A2i 73 x.1 R)++([]))) (fun x=>[]):=by
 refine zco Tryz.func228 [(0,.slice xq x.length xk),(1,iv count)] fun X hX hr hD=>?_
 replace hR:=(V4.eq_1 ..).symm.trans hR
 refine sr 1 rfl (ip' 1 0 [] (ie (A7 (sr 2 rfl (ip' 2 0 [(10,bv (decide (count<0)))] ?_)))))
 refine ie (A0w rfl (fun h1=>?_) (fun h1=>?_))
 ·have h1p:count<0:=by simpa using h1
  exfalso;omega
 have h1p:¬ (count<0):=by simpa using h1
 refine A9 (nx (sr 11 rfl (ip' 5 6 [(15,.int .u64 (IntKind.u64.wrap (x.length:Int))),(17,.int .u64 (IntKind.u64.wrap count))] ?_)))
 have hQ:=E9 hR;clear hR;obtain ⟨y0,hy0,hR⟩:=hQ
 refine zca (C0m (IntKind.u64.wrap (x.length:Int)) (IntKind.u64.wrap count) y0 hy0) fn0 ?_
 have:=D7w x.length count hx1 hcn;try rw [hy0] at this
 have hm1:y0.1=0:=by rw [this]
 have hm2:IntKind.i64.wrap y0.2=count:=by rw [this];exact wr6 (by show -1000000≤count∧count≤1000000;omega)
 have hm3:y0.2=count:=by rw [this]
 refine ip' 5 0 [(5,.int .u64 y0.1),(6,.int .u64 y0.2)] (ie (A7 (sr 6 rfl (ip' 3 3 [(23,bv (decide ((0:Int)<y0.1)))] ?_))))
 refine zir 3 0 23 26 (decide ((9223372036854775807:Int)<y0.2)) (fun g2 g2p=>?_) ?_
 ·refine ip' 3 0 [(26,bv (decide ((9223372036854775807:Int)<y0.2)))] ?_
  exact zai 2 23 26 g2
 refine ie (A0w rfl (fun h3=>?_) (fun h3=>?_))
 ·have h3p:((0:Int)<y0.1)∨((9223372036854775807:Int)<y0.2):=by simpa using h3
  exfalso;simp only [Bool.or_eq_true,decide_eq_true_eq] at h3;omega
 have h3p:¬ (((0:Int)<y0.1)∨((9223372036854775807:Int)<y0.2)):=by simpa using h3
 refine A9 (nx (sr 4 rfl (ip' 2 2 [(29,iv (IntKind.i64.wrap y0.2))] (it rfl (C3h (f:=A2i) (l:=(IntKind.i64.wrap y0.2).toNat) (c:=(IntKind.i64.wrap y0.2).toNat) Cel.zero E3a E0q.ok (fun _=>rfl) rfl (by exact congrArg (fun z=>some (Value.int .i64 z)) (show (IntKind.i64.wrap y0.2)=(((IntKind.i64.wrap y0.2).toNat:Nat):Int) by omega)) (by exact congrArg (fun z=>some (Value.int .i64 z)) (show (IntKind.i64.wrap y0.2)=(((IntKind.i64.wrap y0.2).toNat:Nat):Int) by omega)) (by omega) (by first|omega|(simp<;>omega)) (by omega)) fun ⟨r4,hr5⟩=>?_))))
 have:(List.replicate ((IntKind.i64.wrap y0.2).toNat) Cel.zero).length=((IntKind.i64.wrap y0.2).toNat):=List.length_replicate
 have:=VOk.le hr5
 have:=VOk.cap hr5
 have:(List.replicate ((IntKind.i64.wrap y0.2).toNat) Cel.zero).length=((IntKind.i64.wrap y0.2).toNat):=List.length_replicate
 refine ip' 1 0 [(7,.slice (va r4.q) ((List.replicate ((IntKind.i64.wrap y0.2).toNat) Cel.zero).length) r4.k)] (ie (sr 4 rfl (ip' 2 2 [(31,.slice (va r4.q) ((List.replicate ((IntKind.i64.wrap y0.2).toNat) Cel.zero).length) r4.k),(32,.slice xq x.length xk)] ?_)))
 have hok6:VOk 12 (x.take (List.replicate ((IntKind.i64.wrap y0.2).toNat) Cel.zero).length++(List.replicate ((IntKind.i64.wrap y0.2).toNat) Cel.zero).drop x.length).length r4:=by rw [show (x.take (List.replicate ((IntKind.i64.wrap y0.2).toNat) Cel.zero).length++(List.replicate ((IntKind.i64.wrap y0.2).toNat) Cel.zero).drop x.length).length=(List.replicate ((IntKind.i64.wrap y0.2).toNat) Cel.zero).length by simp only [List.length_append,List.length_take,List.length_drop];omega];exact hr5
 refine it rfl (D3r (f:=A2i) (r:=r4) (xs:=(List.replicate ((IntKind.i64.wrap y0.2).toNat) Cel.zero)) (ys:=x) (pre:=[]) (post:=[]) C8l (fun _=>rfl) (fun _=>rfl) rfl rfl rfl rfl rfl rfl rfl rfl (A2 0 rfl) hr5) fun _=>?_
 refine ip' 1 0 [(8,iv ((min x.length (List.replicate ((IntKind.i64.wrap y0.2).toNat) Cel.zero).length:Nat):Int))] (ie (A7 (B2 ?_)))
 refine B8v (fun (fu:Nat) (newslice:List Cel) (newslicer:VR) (n:Nat)=>((newslice.length - n)<fu∧N1 fu newslice n=R∧VOk 12 newslice.length newslicer∧(newslice.length=count.toNat∧1≤n),[(7,.slice (va newslicer.q) newslice.length newslicer.k),(8,iv (n:Int))],((vo A2i 73 newslicer newslice)++([])),[sl A2i xq x],fu)) (((x.take (List.replicate ((IntKind.i64.wrap y0.2).toNat) Cel.zero).length++(List.replicate ((IntKind.i64.wrap y0.2).toNat) Cel.zero).drop x.length).length - (min x.length (List.replicate ((IntKind.i64.wrap y0.2).toNat) Cel.zero).length:Nat))+1) (x.take (List.replicate ((IntKind.i64.wrap y0.2).toNat) Cel.zero).length++(List.replicate ((IntKind.i64.wrap y0.2).toNat) Cel.zero).drop x.length) r4 (min x.length (List.replicate ((IntKind.i64.wrap y0.2).toNat) Cel.zero).length:Nat) ⟨(Nat.lt_succ_self _),hR,hok6,(by (constructor<;>first|omega|(simp only [List.length_append,List.length_take,List.length_drop,List.length_replicate]<;>omega)))⟩ (mc [vo A2i 73 r4 (x.take (List.replicate ((IntKind.i64.wrap y0.2).toNat) Cel.zero).length++(List.replicate ((IntKind.i64.wrap y0.2).toNat) Cel.zero).drop x.length)] [true] rfl (by first|rfl|(simp only [List.length_set]<;>rfl))) A0.refl (hE:=⟨(show some (Value.slice (va r4.q) ((List.replicate ((IntKind.i64.wrap y0.2).toNat) Cel.zero).length) r4.k)=some (Value.slice (va r4.q) ((x.take (List.replicate ((IntKind.i64.wrap y0.2).toNat) Cel.zero).length++(List.replicate ((IntKind.i64.wrap y0.2).toNat) Cel.zero).drop x.length).length) r4.k) from congrArg (fun z=>some (Value.slice (va r4.q) z r4.k)) (show (List.replicate ((IntKind.i64.wrap y0.2).toNat) Cel.zero).length=(x.take (List.replicate ((IntKind.i64.wrap y0.2).toNat) Cel.zero).length++(List.replicate ((IntKind.i64.wrap y0.2).toNat) Cel.zero).drop x.length).length by first|rfl|omega|(simp<;>omega))),(by first|rfl|exact congrArg (fun z=>some (Value.slice _ z _)) (by first|omega|(simp<;>omega))),trivial⟩) ?_
 rintro fu newslice newslicer n ⟨hm7,hR,hoknewslicer,hn⟩
 have:=VOk.le hoknewslicer
 obtain ⟨fu1,rfl⟩:∃ m,fu=m+1:=⟨fu - 1,by omega⟩
 replace hR:=(N1.eq_2 ..).symm.trans hR
 refine A7 (sr 4 rfl (ip' 4 0 [(37,bv (decide ((n:Int)<(newslice.length:Int))))] ?_))
 refine ie ?_
 refine zjd rfl hR ?_ ?_<;>clear hR<;>intro hR h8 h8p
 ·refine A9 (nx (B2 ?_))
  refine sh' 10 [(7,vo A2i 73 newslicer newslice)] [sl A2i xq x] ((vo A2i 73 newslicer newslice)++([])) (zml 10 0) (by kernel_rfl) rfl (by kernel_rfl) (by kernel_rfl) (by kernel_rfl) (mc [vo A2i 73 newslicer newslice] [true] rfl (by first|rfl|(simp only [List.length_set]<;>rfl))) A0.refl ?_
  refine zhp [0,1,2,4,5] 5 (zml 10 55) [(38,iv (n:Int)),(39,.slice (va newslicer.q) newslice.length newslicer.k),(40,iv (n:Int)),(42,.slice (va newslicer.q) newslice.length newslicer.k),(43,iv (n:Int))] ?_
  have:=VOk.cap hoknewslicer
  refine zhk 3 (zml 10 63) rfl (B4i (n':=(newslice.length - n)) C8l rfl rfl n newslice.length newslicer.k (A3b rfl rfl) A6e A6e (by omega) (by omega) (Nat.le_refl _) rfl rfl) ?_
  have:=VOk.cap hoknewslicer
  refine zhk 6 (zml 10 127) rfl (C0x (n':=n) C8l rfl rfl n newslicer.k (A3b rfl rfl) A6e (by omega) (Nat.le_refl _) rfl rfl) ?_
  have hok9:VOk 12 (newslice.take n++(newslice.take (min n (newslice.length - n):Nat)++newslice.drop (n+(min n (newslice.length - n):Nat)))).length newslicer:=by rw [show (newslice.take n++(newslice.take (min n (newslice.length - n):Nat)++newslice.drop (n+(min n (newslice.length - n):Nat)))).length=newslice.length by simp only [List.length_append,List.length_take,List.length_drop];omega];exact hoknewslicer
  refine zho 7 [] (zml 10 255) rfl (D3d (f:=A2i) (r:=newslicer) (xs:=newslice) (l:=n) (h:=n) (pre:=[]) (post:=[]) C8l (fun _=>rfl) (fun _=>rfl) rfl rfl rfl rfl rfl rfl rfl hoknewslicer (by omega) (by omega)) (fun _=>(List.nil_sublist _)) (fun _=>A0.refl) fun _=>?_
  refine zhk 8 (zml 10 511) rfl (B6 rfl rfl rfl rfl (by omega)) ?_
  refine zhp [9] 0 (zml 10 1023) [(8,iv ((n:Int)+((min n (newslice.length - n):Nat):Int)))] ?_
  refine C0t (by kernel_rfl) ?_
  exact B5b (z1:=(fu1+1)) (z2:=newslice) (z3:=newslicer) (z4:=n) fu1 (newslice.take n++(newslice.take (min n (newslice.length - n):Nat)++newslice.drop (n+(min n (newslice.length - n):Nat)))) newslicer (n+(min n (newslice.length - n):Nat)) ⟨(by simp only [List.length_append,List.length_take,List.length_drop,List.length_replicate];omega),hR,hok9,(by (constructor<;>first|omega|(simp only [List.length_append,List.length_take,List.length_drop,List.length_replicate]<;>omega)))⟩ (Nat.lt_succ_self _) (mc [vo A2i 73 newslicer (newslice.take n++(newslice.take (min n (newslice.length - n):Nat)++newslice.drop (n+(min n (newslice.length - n):Nat))))] [true] rfl (by first|rfl|(simp only [List.length_set]<;>rfl))) A0.refl (hE:=⟨(show some (Value.slice (va newslicer.q) newslice.length newslicer.k)=some (Value.slice (va newslicer.q) ((newslice.take n++(newslice.take (min n (newslice.length - n):Nat)++newslice.drop (n+(min n (newslice.length - n):Nat)))).length) newslicer.k) from congrArg (fun z=>some (Value.slice (va newslicer.q) z newslicer.k)) (show newslice.length=(newslice.take n++(newslice.take (min n (newslice.length - n):Nat)++newslice.drop (n+(min n (newslice.length - n):Nat)))).length by first|rfl|omega|(simp<;>omega))),(show some (iv ((n:Int)+((min n (newslice.length - n):Nat):Int)))=some (iv ((n+(min n (newslice.length - n):Nat)):Int)) by first|rfl|exact congrArg (fun z=>some (Value.int .i64 z)) (by first|rfl|omega|(simp<;>omega))),trivial⟩)
 refine J5 (nx (sr 2 rfl (ip' 2 0 [(4,.slice (va newslicer.q) newslice.length newslicer.k)] ?_)))
 subst hR
 refine ie (B1 ?_)
 exact zer hr hD (P5 rfl (C0 rfl)) ⟨newslicer,hoknewslicer⟩ (mc [vo A2i 73 newslicer newslice] [true] rfl (by first|rfl|(simp only [List.length_set]<;>rfl))) fn0
def C5i (cols:Int) (s:Sty):List Cel×Bool×Int :=
 (bif ((decide (cols<2))||(decide ((80:Int)<cols))) then (([]:List Cel),false,2) else (bif (!decide ((V0 s)=0)) then (([]:List Cel),false,(V0 s)) else (B4 (V4 ([(A7y s)]:List Cel) cols) fun (y1:List Cel)=>(y1,false,0))))
theorem D3o (cols:Int) (s:Sty) (R:List Cel×Bool×Int) (hR:C5i cols s=R):Con Tryz.prog 215 [iv cols,ag (U9 s)] [] [] ({r:VR // VOk 12 R.1.length r}) (fun x=>.tuple #[ag [.slice (va x.1.q) R.1.length x.1.k,bv R.2.1],iv R.2.2]) (fun x=>((vo A2i 73 x.1 R.1)++([]))) (fun x=>[]):=by
 refine zco Tryz.func215 [(0,iv cols),(1,ag (U9 s))] fun X hX hr hD=>?_
 replace hR:=(C5i.eq_1 ..).symm.trans hR
 refine sr 3 rfl (C0k 3 0 [] (fun b1 b2=>[(3,pt b1 0),(4,pt b2 0)]) (fun b1 b2=>[bx b2 [.slice none 0 0,bv false] 115,bx b1 (U9 s) 67]) (fun b1 b2=>(ie (A7 (sr 6 rfl (ip' 3 3 [(9,bv (decide (cols<2)))] ?_))))))
 refine zir 3 0 9 12 (decide ((80:Int)<cols)) (fun g3 g3p=>?_) ?_
 ·refine ip' 3 0 [(12,bv (decide ((80:Int)<cols)))] ?_
  exact A6 (X8 2 9 12 g3 fn0 (mk [true,true] rfl) rfl rfl rfl rfl rfl)
 refine ie ?_
 refine zjo rfl hR ?_ ?_<;>clear hR<;>intro hR h4 h4p
 ·refine sr 3 rfl (zrg 3 0 [0] [(5,iv 2)] [bx b2 [.slice none 0 0,bv false] 115,bx b1 (U9 s) 67] ?_)
  subst hR
  refine ie (B1 ?_)
  exact zer hr hD (A4c rfl (G1 (us:=[.slice none 0 0,bv false]) D1z rfl 0 rfl rfl rfl) (C0 rfl)) ⟨VR.nil,VOk.nil⟩ (mc [[bx b2 [.slice none 0 0,bv false] 115],[bx b1 (U9 s) 67],vo A2i 73 VR.nil ([]:List Cel)] [false,false,true] rfl (by first|rfl|(simp only [List.length_set]<;>rfl))) fn0
 refine A9 (nx (A7 (sr 3 rfl (zrl 1 2 [1] [(14,ag (U9 s))] (zca (B5m s _ rfl) fn0 (ip' 1 0 [(6,iv (V0 s))] (ie (sr 2 rfl (ip' 2 0 [(17,bv (!decide ((V0 s)=0)))] (ie ?_))))))))))
 refine zjn rfl hR ?_ ?_<;>clear hR<;>intro hR h5 h5p
 ·refine sr 4 rfl (zrg 4 0 [0] [(5,iv (V0 s))] [bx b2 [.slice none 0 0,bv false] 115,bx b1 (U9 s) 67] ?_)
  subst hR
  refine ie (B1 ?_)
  exact zer hr hD (A4c rfl (G1 (us:=[.slice none 0 0,bv false]) D1z rfl 0 rfl rfl rfl) (C0 rfl)) ⟨VR.nil,VOk.nil⟩ (mc [[bx b2 [.slice none 0 0,bv false] 115],[bx b1 (U9 s) 67],vo A2i 73 VR.nil ([]:List Cel)] [false,false,true] rfl (by first|rfl|(simp only [List.length_set]<;>rfl))) fn0
 refine A9 (nx (sr 8 rfl (zrl 1 7 [1] [(20,ag (U9 s))] (zca (C7q s _ rfl) fn0 (it rfl (B7 (c:=A2i) (xs:=([(A7y s)]:List Cel)) C8l rfl rfl rfl (by kernel_rfl)) fun b6=>?_)))))
 have:([(A7y s)]:List Cel).length=1:=rfl
 refine ip' 1 4 [(23,iv cols)] ?_
 have hQ:=E9 hR;clear hR;obtain ⟨y1,hy1,hR⟩:=hQ
 refine it rfl (R9 (L2:=[bx b2 [.slice none 0 0,bv false] 115,bx b1 (U9 s) 67]) (A4n ([(A7y s)]:List Cel) cols (some ⟨b6,0,none⟩) 1 (by first|omega|(simp<;>omega)|(dsimp only;omega)|decide) (by first|omega|(simp<;>omega)|(dsimp only;omega)|decide) (by omega) (by first|rfl|omega) y1 hy1) rfl rfl rfl rfl rfl A0.refl (List.Perm.refl _) (fun ⟨r7,hk8⟩=>(bx b2 [.slice none 0 0,bv false] 115::bx b1 (U9 s) 67::(vo A2i 73 r7 y1)++([]))) (fun ⟨r7,hk8⟩=>M1 [vo A2i 73 r7 y1,[bx b2 [.slice none 0 0,bv false] 115],[bx b1 (U9 s) 67]] [1,2,0] 3 rfl (by decide) (by first|rfl|simp) [[bx b2 [.slice none 0 0,bv false] 115],[bx b1 (U9 s) 67],vo A2i 73 r7 y1] rfl (by first|rfl|simp))) fun ⟨r7,hk8⟩=>?_
 have:=VOk.le hk8
 have:=VOk.cap hk8
 refine zrg 3 0 [0] [(5,iv 0)] (bx b2 [.slice (va r7.q) y1.length r7.k,bv false] 115::bx b1 (U9 s) 67::(vo A2i 73 r7 y1)++([])) ?_
 subst hR
 refine ie (B1 ?_)
 exact zer hr hD (A4c rfl (G1 (us:=[.slice (va r7.q) y1.length r7.k,bv false]) D1z rfl 0 rfl rfl rfl) (C0 rfl)) ⟨r7,hk8⟩ (mc [[bx b2 [.slice (va r7.q) y1.length r7.k,bv false] 115],[bx b1 (U9 s) 67],vo A2i 73 r7 y1] [false,false,true] rfl (by first|rfl|(simp only [List.length_set]<;>rfl))) fn0
end Go.Proofs.YtanighkpfmgnbaaGreatDoor
set_option linter.unusedVariables false
set_option linter.unusedSimpArgs false
set_option linter.unnecessarySimpa false
set_option maxRecDepth 100000
namespace Go.Proofs.YtanighkpfmgnbaaGreatDoor
open Go Go.Fen
theorem E0n:ApTy Tryz.prog 154 115 2 32:=⟨by kernel_rfl,by kernel_rfl,rfl⟩
theorem E2n:SlTy Tryz.prog 154 115 2:=⟨by kernel_rfl,by kernel_rfl⟩
theorem D7i:Ty Tryz.prog 164 80 true:=⟨by kernel_rfl⟩
theorem D8d:Zero Tryz.prog 115 [.slice none 0 0,bv false]:=⟨by kernel_rfl⟩
def A5a (wide:Int) (many:Int) (s:Sty):Nat→Nat→Unit
 | 0,_=>()
 | fu1+1,t13=>(bif (decide ((t13:Int)<((List.replicate ((many).toNat) (⟨⟨none,0,0⟩,false⟩:Rwq)).length:Int))) then (B4 (C5i wide s) fun (y1:List Cel×Bool×Int)=>A5a wide many s fu1 (t13+1)) else ())
def B9c (wide:Int) (many:Int) (s:Sty):Unit :=
 A5a wide many s (((List.replicate ((many).toNat) (⟨⟨none,0,0⟩,false⟩:Rwq)).length - 0)+1) 0
theorem C3y (wide:Int) (many:Int) (s:Sty) (hmn:1≤many∧many≤40) (hwd:2≤wide∧wide≤80) (R:Unit) (hR:B9c wide many s=R):Con Tryz.prog 198 [iv wide,iv many,ag (U9 s)] [] [] ({t:VR×List Rwq // VOk 2 t.2.length t.1}) (fun x=>.slice (va x.1.1.q) x.1.2.length x.1.1.k) (fun x=>((vo A1e 115 x.1.1 x.1.2)++([]))) (fun x=>[]):=by
 refine zco Tryz.func198 [(0,iv wide),(1,iv many),(2,ag (U9 s))] fun X hX hr hD=>?_
 replace hR:=(B9c.eq_1 ..).symm.trans hR
 refine sr 2 rfl (Q9 2 0 [] (fun b1=>[(5,pt b1 0)]) (fun b1=>[bx b1 (U9 s) 67]) (fun b1=>(ie (sr 3 rfl (ip' 1 2 [(9,iv many)] (it rfl (C3h (f:=A1e) (l:=(many).toNat) (c:=(many).toNat) (⟨⟨none,0,0⟩,false⟩:Rwq) E0n D8d.ok (fun _=>rfl) rfl (by exact congrArg (fun z=>some (Value.int .i64 z)) (show many=(((many).toNat:Nat):Int) by omega)) (by exact congrArg (fun z=>some (Value.int .i64 z)) (show many=(((many).toNat:Nat):Int) by omega)) (by omega) (by first|omega|(simp<;>omega)) (by omega)) fun ⟨r2,hr3⟩=>?_))))))
 have:(List.replicate ((many).toNat) (⟨⟨none,0,0⟩,false⟩:Rwq)).length=((many).toNat):=List.length_replicate
 have:=VOk.le hr3
 have:=VOk.cap hr3
 have:(List.replicate ((many).toNat) (⟨⟨none,0,0⟩,false⟩:Rwq)).length=((many).toNat):=List.length_replicate
 refine ip' 1 0 [(7,.slice (va r2.q) ((List.replicate ((many).toNat) (⟨⟨none,0,0⟩,false⟩:Rwq)).length) r2.k)] (ie (A7 (sr 3 rfl (ip' 3 0 [(12,iv ((List.replicate ((many).toNat) (⟨⟨none,0,0⟩,false⟩:Rwq)).length:Int)),(13,iv 0)] (ie (B2 ?_))))))
 refine B8v (fun (fu:Nat) (lr:VR) (lqs:List Rwq) (t13:Nat)=>(((List.replicate ((many).toNat) (⟨⟨none,0,0⟩,false⟩:Rwq)).length - t13)<fu∧A5a wide many s fu t13=R∧VOk 2 lqs.length lr∧lqs.length=(many).toNat,[(0,iv wide),(5,pt b1 0),(7,.slice (va lr.q) lqs.length lr.k),(12,iv ((List.replicate ((many).toNat) (⟨⟨none,0,0⟩,false⟩:Rwq)).length:Int)),(13,iv (t13:Int))],(bx b1 (U9 s) 67::(vo A1e 115 lr lqs)++([])),[],fu)) (((List.replicate ((many).toNat) (⟨⟨none,0,0⟩,false⟩:Rwq)).length - 0)+1) r2 (List.replicate ((many).toNat) (⟨⟨none,0,0⟩,false⟩:Rwq)) 0 ⟨(Nat.lt_succ_self _),hR,hr3,List.length_replicate⟩ (mc [[bx b1 (U9 s) 67],vo A1e 115 r2 (List.replicate ((many).toNat) (⟨⟨none,0,0⟩,false⟩:Rwq))] [true,true] rfl (by first|rfl|(simp only [List.length_set]<;>rfl))) fn0 ?_
 rintro fu lr lqs t13 ⟨hm4,hR,hoklr,hlnlr⟩
 have:=VOk.le hoklr
 obtain ⟨fu1,rfl⟩:∃ m,fu=m+1:=⟨fu - 1,by omega⟩
 replace hR:=(A5a.eq_2 ..).symm.trans hR
 refine sr 1 rfl (ip' 1 0 [(14,bv (decide ((t13:Int)<((List.replicate ((many).toNat) (⟨⟨none,0,0⟩,false⟩:Rwq)).length:Int))))] (ie (A7 ?_)))
 refine zjd rfl hR ?_ ?_<;>clear hR<;>intro hR h5 h5p
 ·refine A9 (nx (A7 (B2 (sr 2 rfl (ip' 2 0 [(8,iv (t13:Int))] (ie (A4 10 rfl (zrl 4 6 [0] [(17,.slice (va lr.q) lqs.length lr.k),(18,iv (t13:Int)),(19,iv wide),(20,ag (U9 s))] ?_))))))))
  have hQ:=E9 hR;clear hR;obtain ⟨y1,hy1,hR⟩:=hQ
  refine it rfl (R9 (L2:=(bx b1 (U9 s) 67::(vo A1e 115 lr lqs)++([]))) (D3o wide s y1 hy1) rfl rfl rfl rfl rfl fn0 (List.Perm.refl _) (fun ⟨r6,hk7⟩=>(bx b1 (U9 s) 67::(vo A2i 73 r6 y1.1)++((vo A1e 115 lr lqs)++([])))) (fun ⟨r6,hk7⟩=>M1 [vo A2i 73 r6 y1.1,[bx b1 (U9 s) 67],vo A1e 115 lr lqs] [1,0,2] 3 rfl (by decide) (by first|rfl|simp) [[bx b1 (U9 s) 67],vo A2i 73 r6 y1.1,vo A1e 115 lr lqs] rfl (by first|rfl|simp))) fun ⟨r6,hk7⟩=>?_
  have:=VOk.le hk7
  have:=VOk.cap hk7
  refine ip' 3 2 [(22,ag [.slice (va r6.q) y1.1.length r6.k,bv y1.2.1])] ?_
  obtain ⟨b8,hb9⟩:=VOk.some hoklr (by omega)
  obtain ⟨q10,k11,j12⟩:=lr
  obtain rfl:q10=some b8:=hb9
  refine ix rfl (C1w E2n rfl rfl rfl t13 rfl (by omega)) ?_
  have:=VOk.cap hk7
  have:=VOk.le hk7
  refine A3w [bx b1 (U9 s) 67] ((vo A1e 115 (⟨some b8,k11,j12⟩:VR) lqs)++([])) (T:=73) (c:=A2i) (r:=r6) (xs:=y1.1) hk7 (by first|rfl|simp only [List.flatten_cons,List.flatten_nil,List.cons_append,List.append_assoc,List.nil_append,List.append_nil]) ?_
  have hln13:(lqs.set t13 (⟨⟨va r6.q,y1.1.length,r6.k⟩,y1.2.1⟩:Rwq)).length=(many).toNat:=by rw [List.length_set];exact hlnlr
  refine it rfl (B5h (us:=[.slice (va r6.q) y1.1.length r6.k,bv y1.2.1]) (u':=(⟨⟨va r6.q,y1.1.length,r6.k⟩,y1.2.1⟩:Rwq)) (c:=A1e) (sz:=2) (xs:=lqs) D1z (fun _=>rfl) rfl rfl rfl 1 rfl rfl rfl rfl t13 0 rfl (gd (⟨⟨none,0,0⟩,false⟩:Rwq) (by omega)) rfl rfl) fun _=>?_
  refine A6 (nx (A4 2 rfl (ix rfl (B6 rfl rfl rfl rfl (by omega)) (ip' 1 0 [(13,iv ((t13:Int)+1))] (A6 ?_)))))
  exact B5b (z1:=(fu1+1)) (z2:=(⟨some b8,k11,j12⟩:VR)) (z3:=lqs) (z4:=t13) fu1 (⟨some b8,k11,j12⟩:VR) (lqs.set t13 (⟨⟨va r6.q,y1.1.length,r6.k⟩,y1.2.1⟩:Rwq)) (t13+1) ⟨(by omega),hR,(VOk.cast hoklr (by simp)),hln13⟩ (Nat.lt_succ_self _) (mc [[bx b1 (U9 s) 67],vo A1e 115 (⟨some b8,k11,j12⟩:VR) (lqs.set t13 (⟨⟨va r6.q,y1.1.length,r6.k⟩,y1.2.1⟩:Rwq))] [true,true] rfl (by first|rfl|(simp only [List.length_set]<;>rfl))) fn0
 refine J5 (nx (sr 2 rfl (ip' 2 0 [(6,.slice (va lr.q) lqs.length lr.k)] ?_)))
 subst hR
 refine ie (B1 ?_)
 exact zer hr hD (P5 rfl (C0 rfl)) ⟨(lr,lqs),hoklr⟩ (mc [[bx b1 (U9 s) 67],vo A1e 115 lr lqs] [false,true] rfl (by first|rfl|(simp only [List.length_set]<;>rfl))) fn0
def A2m (cols:Int) (rows:Int) (s:Sty):Int :=
 (bif ((((decide (cols<2))||(decide ((80:Int)<cols)))||(decide (rows<1)))||(decide ((40:Int)<rows))) then 2 else (bif (!decide ((V0 s)=0)) then (V0 s) else 0))
theorem C1v (cols:Int) (rows:Int) (s:Sty) (R:Int) (hR:A2m cols rows s=R):Con Tryz.prog 147 [iv cols,iv rows,ag (U9 s)] [] [] ({t:VR×List Rwq // VOk 2 t.2.length t.1}) (fun x=>.tuple #[.slice (va x.1.1.q) x.1.2.length x.1.1.k,iv R]) (fun x=>((vo A1e 115 x.1.1 x.1.2)++([]))) (fun x=>[]):=by
 refine zco Tryz.func147 [(0,iv cols),(1,iv rows),(2,ag (U9 s))] fun X hX hr hD=>?_
 replace hR:=(A2m.eq_1 ..).symm.trans hR
 refine sr 3 rfl (Q9 3 0 [] (fun b1=>[(5,pt b1 0)]) (fun b1=>[bx b1 (U9 s) 67]) (fun b1=>(ie (A7 (sr 14 rfl (ip' 3 11 [(11,bv (decide (cols<2)))] ?_))))))
 refine zir 3 8 11 14 (decide ((80:Int)<cols)) (fun g2 g2p=>?_) ?_
 ·refine ip' 3 0 [(14,bv (decide ((80:Int)<cols)))] ?_
  exact A6 (X8 2 11 14 g2 fn0 (mk [true] rfl) rfl rfl rfl rfl rfl)
 refine ip' 1 7 [(15,bv ((decide (cols<2))||(decide ((80:Int)<cols))))] ?_
 refine zio 3 4 15 18 (decide (rows<1)) (fun g3=>?_) ?_
 ·have g3p:¬ ((cols<2)∨((80:Int)<cols)):=by simpa using g3
  refine ip' 3 0 [(18,bv (decide (rows<1)))] ?_
  exact A6 (X8 2 15 18 g3 fn0 (mk [true] rfl) rfl rfl rfl rfl rfl)
 refine ip' 1 3 [(19,bv (((decide (cols<2))||(decide ((80:Int)<cols)))||(decide (rows<1))))] ?_
 refine zio 3 0 19 22 (decide ((40:Int)<rows)) (fun g4=>?_) ?_
 ·have g4p:¬ (((cols<2)∨((80:Int)<cols))∨(rows<1)):=by simpa using g4
  refine ip' 3 0 [(22,bv (decide ((40:Int)<rows)))] ?_
  exact A6 (X8 2 19 22 g4 fn0 (mk [true] rfl) rfl rfl rfl rfl rfl)
 refine ie ?_
 refine zjb rfl hR ?_ ?_<;>clear hR<;>intro hR h5
 ·have h5p:(((cols<2)∨((80:Int)<cols))∨(rows<1))∨((40:Int)<rows):=by simpa using h5
  refine sr 2 rfl (ip' 2 0 [(6,.slice none 0 0),(7,iv 2)] ?_)
  subst hR
  refine ie (B1 ?_)
  exact zer hr hD (A4c rfl (C0 rfl) (C0 rfl)) ⟨(VR.nil,([]:List Rwq)),VOk.nil⟩ (mc [[bx b1 (U9 s) 67],vo A1e 115 VR.nil ([]:List Rwq)] [false,true] rfl (by first|rfl|(simp only [List.length_set]<;>rfl))) fn0
 have h5p:¬ ((((cols<2)∨((80:Int)<cols))∨(rows<1))∨((40:Int)<rows)):=by simpa using h5
 refine A9 (nx (A7 (sr 3 rfl (zrl 1 2 [0] [(23,ag (U9 s))] (zca (B5m s _ rfl) fn0 (ip' 1 0 [(8,iv (V0 s))] (ie (sr 2 rfl (ip' 2 0 [(26,bv (!decide ((V0 s)=0)))] (ie ?_))))))))))
 refine zjn rfl hR ?_ ?_<;>clear hR<;>intro hR h6 h6p
 ·refine sr 3 rfl (ip' 3 0 [(6,.slice none 0 0),(7,iv (V0 s))] ?_)
  subst hR
  refine ie (B1 ?_)
  exact zer hr hD (A4c rfl (C0 rfl) (C0 rfl)) ⟨(VR.nil,([]:List Rwq)),VOk.nil⟩ (mc [[bx b1 (U9 s) 67],vo A1e 115 VR.nil ([]:List Rwq)] [false,true] rfl (by first|rfl|(simp only [List.length_set]<;>rfl))) fn0
 refine A9 (nx (sr 6 rfl (zrl 3 3 [0] [(28,iv cols),(29,iv rows),(30,ag (U9 s))] (it rfl (R9 (L2:=[bx b1 (U9 s) 67]) (C3y cols rows s (by omega) (by omega) _ rfl) rfl rfl rfl rfl rfl fn0 (List.Perm.refl _) (fun ⟨⟨r7,qs8⟩,hk9⟩=>(bx b1 (U9 s) 67::(vo A1e 115 r7 qs8)++([]))) (fun ⟨⟨r7,qs8⟩,hk9⟩=>M1 [vo A1e 115 r7 qs8,[bx b1 (U9 s) 67]] [1,0] 2 rfl (by decide) (by first|rfl|simp) [[bx b1 (U9 s) 67],vo A1e 115 r7 qs8] rfl (by first|rfl|simp))) fun ⟨⟨r7,qs8⟩,hk9⟩=>?_))))
 try dsimp only at hk9
 have:=VOk.le hk9
 have:=VOk.cap hk9
 refine ip' 2 0 [(6,.slice (va r7.q) qs8.length r7.k),(7,iv 0)] ?_
 subst hR
 refine ie (B1 ?_)
 exact zer hr hD (A4c rfl (C0 rfl) (C0 rfl)) ⟨(r7,qs8),hk9⟩ (mc [[bx b1 (U9 s) 67],vo A1e 115 r7 qs8] [false,true] rfl (by first|rfl|(simp only [List.length_set]<;>rfl))) fn0
def V8 (cols:Int) (rows:Int):Int :=
 (bif (!decide ((A2m cols rows Sty.zero)=0)) then (A2m cols rows Sty.zero) else (B4 (C1t cols) fun (y2:List Bool×Int)=>(B4 C3b fun (y0:Bool×Bool×Bool×Bool×Bool×Bool×Bool×Bool×Bool×Bool×Bool×Int×Bool)=>y2.2)))
theorem C5t (cols:Int) (rows:Int) (R:Int) (hR:V8 cols rows=R):Con Tryz.prog 103 [iv cols,iv rows] [] [] ({u:List Value // u.length=80∧u.all (·.oneCell')=true}) (fun x=>.tuple #[ag x.1,iv R]) (fun x=>[]) (fun x=>[]):=by
 refine zco Tryz.func103 [(0,iv cols),(1,iv rows)] fun X hX hr hD=>?_
 replace hR:=(V8.eq_1 ..).symm.trans hR
 refine sr 2 rfl (Q9 2 0 [] (fun b1=>[(4,pt b1 0)]) (fun b1=>[bx b1 [iv 0,iv 0,.slice none 0 0,.slice none 0 0,bv false,.slice none 0 0,iv 0,iv 0,bv false,iv 0,iv 0,iv 0,iv 0,iv 0,iv 0,iv 0,iv 0,iv 0,iv 0,iv 0,iv 0,iv 0,iv 0,bv false,bv false,bv false,bv false,bv false,bv false,bv false,bv false,bv false,bv false,bv false,iv 0,bv false,iv 0,iv 0,.slice none 0 0,bv false,iv 0,iv 0,bv false,iv 0,iv 0,iv 0,iv 0,iv 0,iv 0,iv 0,iv 0,iv 0,iv 0,iv 0,iv 0,iv 0,iv 0,bv false,bv false,iv 0,iv 0,bv false,iv 0,iv 0,iv 0,iv 0,iv 0,iv 0,iv 0,iv 0,iv 0,iv 0,iv 0,iv 0,iv 0,iv 0,bv false,iv 0,sv ([]:List UInt8),iv 0] 164]) (fun b1=>(ie (sr 9 rfl (zrl 3 6 [] [(12,iv cols),(13,iv rows),(14,ag (U9 Sty.zero))] (it rfl (R9 (L2:=[bx b1 [iv 0,iv 0,.slice none 0 0,.slice none 0 0,bv false,.slice none 0 0,iv 0,iv 0,bv false,iv 0,iv 0,iv 0,iv 0,iv 0,iv 0,iv 0,iv 0,iv 0,iv 0,iv 0,iv 0,iv 0,iv 0,bv false,bv false,bv false,bv false,bv false,bv false,bv false,bv false,bv false,bv false,bv false,iv 0,bv false,iv 0,iv 0,.slice none 0 0,bv false,iv 0,iv 0,bv false,iv 0,iv 0,iv 0,iv 0,iv 0,iv 0,iv 0,iv 0,iv 0,iv 0,iv 0,iv 0,iv 0,iv 0,bv false,bv false,iv 0,iv 0,bv false,iv 0,iv 0,iv 0,iv 0,iv 0,iv 0,iv 0,iv 0,iv 0,iv 0,iv 0,iv 0,iv 0,iv 0,bv false,iv 0,sv ([]:List UInt8),iv 0] 164]) (C1v cols rows Sty.zero _ rfl) rfl rfl rfl rfl rfl fn0 (List.Perm.refl _) (fun ⟨⟨r2,qs3⟩,hk4⟩=>(bx b1 [iv 0,iv 0,.slice none 0 0,.slice none 0 0,bv false,.slice none 0 0,iv 0,iv 0,bv false,iv 0,iv 0,iv 0,iv 0,iv 0,iv 0,iv 0,iv 0,iv 0,iv 0,iv 0,iv 0,iv 0,iv 0,bv false,bv false,bv false,bv false,bv false,bv false,bv false,bv false,bv false,bv false,bv false,iv 0,bv false,iv 0,iv 0,.slice none 0 0,bv false,iv 0,iv 0,bv false,iv 0,iv 0,iv 0,iv 0,iv 0,iv 0,iv 0,iv 0,iv 0,iv 0,iv 0,iv 0,iv 0,iv 0,bv false,bv false,iv 0,iv 0,bv false,iv 0,iv 0,iv 0,iv 0,iv 0,iv 0,iv 0,iv 0,iv 0,iv 0,iv 0,iv 0,iv 0,iv 0,bv false,iv 0,sv ([]:List UInt8),iv 0] 164::(vo A1e 115 r2 qs3)++([]))) (fun ⟨⟨r2,qs3⟩,hk4⟩=>M1 [vo A1e 115 r2 qs3,[bx b1 [iv 0,iv 0,.slice none 0 0,.slice none 0 0,bv false,.slice none 0 0,iv 0,iv 0,bv false,iv 0,iv 0,iv 0,iv 0,iv 0,iv 0,iv 0,iv 0,iv 0,iv 0,iv 0,iv 0,iv 0,iv 0,bv false,bv false,bv false,bv false,bv false,bv false,bv false,bv false,bv false,bv false,bv false,iv 0,bv false,iv 0,iv 0,.slice none 0 0,bv false,iv 0,iv 0,bv false,iv 0,iv 0,iv 0,iv 0,iv 0,iv 0,iv 0,iv 0,iv 0,iv 0,iv 0,iv 0,iv 0,iv 0,bv false,bv false,iv 0,iv 0,bv false,iv 0,iv 0,iv 0,iv 0,iv 0,iv 0,iv 0,iv 0,iv 0,iv 0,iv 0,iv 0,iv 0,iv 0,bv false,iv 0,sv ([]:List UInt8),iv 0] 164]] [1,0] 2 rfl (by decide) (by first|rfl|simp) [[bx b1 [iv 0,iv 0,.slice none 0 0,.slice none 0 0,bv false,.slice none 0 0,iv 0,iv 0,bv false,iv 0,iv 0,iv 0,iv 0,iv 0,iv 0,iv 0,iv 0,iv 0,iv 0,iv 0,iv 0,iv 0,iv 0,bv false,bv false,bv false,bv false,bv false,bv false,bv false,bv false,bv false,bv false,bv false,iv 0,bv false,iv 0,iv 0,.slice none 0 0,bv false,iv 0,iv 0,bv false,iv 0,iv 0,iv 0,iv 0,iv 0,iv 0,iv 0,iv 0,iv 0,iv 0,iv 0,iv 0,iv 0,iv 0,bv false,bv false,iv 0,iv 0,bv false,iv 0,iv 0,iv 0,iv 0,iv 0,iv 0,iv 0,iv 0,iv 0,iv 0,iv 0,iv 0,iv 0,iv 0,bv false,iv 0,sv ([]:List UInt8),iv 0] 164],vo A1e 115 r2 qs3] rfl (by first|rfl|simp))) fun ⟨⟨r2,qs3⟩,hk4⟩=>?_))))))
 try dsimp only at hk4
 have:=VOk.le hk4
 have:=VOk.cap hk4
 refine ip' 5 0 [(6,.slice (va r2.q) qs3.length r2.k),(7,iv (A2m cols rows Sty.zero))] (ie (A7 (sr 2 rfl (ip' 2 0 [(19,bv (!decide ((A2m cols rows Sty.zero)=0)))] (ie ?_)))))
 refine zjn rfl hR ?_ ?_<;>clear hR<;>intro hR h5 h5p
 ·refine sr 4 rfl (zrg 4 0 [0] [(5,iv (A2m cols rows Sty.zero))] (bx b1 [iv 0,iv 0,.slice none 0 0,.slice none 0 0,bv false,.slice none 0 0,iv 0,iv 0,bv false,iv 0,iv 0,iv 0,iv 0,iv 0,iv 0,iv 0,iv 0,iv 0,iv 0,iv 0,iv 0,iv 0,iv 0,bv false,bv false,bv false,bv false,bv false,bv false,bv false,bv false,bv false,bv false,bv false,iv 0,bv false,iv 0,iv 0,.slice none 0 0,bv false,iv 0,iv 0,bv false,iv 0,iv 0,iv 0,iv 0,iv 0,iv 0,iv 0,iv 0,iv 0,iv 0,iv 0,iv 0,iv 0,iv 0,bv false,bv false,iv 0,iv 0,bv false,iv 0,iv 0,iv 0,iv 0,iv 0,iv 0,iv 0,iv 0,iv 0,iv 0,iv 0,iv 0,iv 0,iv 0,bv false,iv 0,sv ([]:List UInt8),iv 0] 164::(vo A1e 115 r2 qs3)++([])) ?_)
  subst hR
  refine ie (B1 ?_)
  exact zer hr hD (A4c rfl (G1 (us:=[iv 0,iv 0,.slice none 0 0,.slice none 0 0,bv false,.slice none 0 0,iv 0,iv 0,bv false,iv 0,iv 0,iv 0,iv 0,iv 0,iv 0,iv 0,iv 0,iv 0,iv 0,iv 0,iv 0,iv 0,iv 0,bv false,bv false,bv false,bv false,bv false,bv false,bv false,bv false,bv false,bv false,bv false,iv 0,bv false,iv 0,iv 0,.slice none 0 0,bv false,iv 0,iv 0,bv false,iv 0,iv 0,iv 0,iv 0,iv 0,iv 0,iv 0,iv 0,iv 0,iv 0,iv 0,iv 0,iv 0,iv 0,bv false,bv false,iv 0,iv 0,bv false,iv 0,iv 0,iv 0,iv 0,iv 0,iv 0,iv 0,iv 0,iv 0,iv 0,iv 0,iv 0,iv 0,iv 0,bv false,iv 0,sv ([]:List UInt8),iv 0]) D7i rfl 0 rfl rfl rfl) (C0 rfl)) ⟨[iv 0,iv 0,.slice none 0 0,.slice none 0 0,bv false,.slice none 0 0,iv 0,iv 0,bv false,iv 0,iv 0,iv 0,iv 0,iv 0,iv 0,iv 0,iv 0,iv 0,iv 0,iv 0,iv 0,iv 0,iv 0,bv false,bv false,bv false,bv false,bv false,bv false,bv false,bv false,bv false,bv false,bv false,iv 0,bv false,iv 0,iv 0,.slice none 0 0,bv false,iv 0,iv 0,bv false,iv 0,iv 0,iv 0,iv 0,iv 0,iv 0,iv 0,iv 0,iv 0,iv 0,iv 0,iv 0,iv 0,iv 0,bv false,bv false,iv 0,iv 0,bv false,iv 0,iv 0,iv 0,iv 0,iv 0,iv 0,iv 0,iv 0,iv 0,iv 0,iv 0,iv 0,iv 0,iv 0,bv false,iv 0,sv ([]:List UInt8),iv 0],by exact ⟨rfl,rfl⟩⟩ (List.nil_sublist _) fn0
 refine A9 (nx (sr 9 rfl (zrl 3 6 [] [(23,iv cols),(24,iv rows),(25,ag (U9 Sty.zero))] (it rfl (R9 (L2:=(bx b1 [iv 0,iv 0,.slice none 0 0,.slice none 0 0,bv false,.slice none 0 0,iv 0,iv 0,bv false,iv 0,iv 0,iv 0,iv 0,iv 0,iv 0,iv 0,iv 0,iv 0,iv 0,iv 0,iv 0,iv 0,iv 0,bv false,bv false,bv false,bv false,bv false,bv false,bv false,bv false,bv false,bv false,bv false,iv 0,bv false,iv 0,iv 0,.slice none 0 0,bv false,iv 0,iv 0,bv false,iv 0,iv 0,iv 0,iv 0,iv 0,iv 0,iv 0,iv 0,iv 0,iv 0,iv 0,iv 0,iv 0,iv 0,bv false,bv false,iv 0,iv 0,bv false,iv 0,iv 0,iv 0,iv 0,iv 0,iv 0,iv 0,iv 0,iv 0,iv 0,iv 0,iv 0,iv 0,iv 0,bv false,iv 0,sv ([]:List UInt8),iv 0] 164::(vo A1e 115 r2 qs3)++([]))) (C1v cols rows Sty.zero _ rfl) rfl rfl rfl rfl rfl fn0 (List.Perm.refl _) (fun ⟨⟨r6,qs7⟩,hk8⟩=>(bx b1 [iv 0,iv 0,.slice none 0 0,.slice none 0 0,bv false,.slice none 0 0,iv 0,iv 0,bv false,iv 0,iv 0,iv 0,iv 0,iv 0,iv 0,iv 0,iv 0,iv 0,iv 0,iv 0,iv 0,iv 0,iv 0,bv false,bv false,bv false,bv false,bv false,bv false,bv false,bv false,bv false,bv false,bv false,iv 0,bv false,iv 0,iv 0,.slice none 0 0,bv false,iv 0,iv 0,bv false,iv 0,iv 0,iv 0,iv 0,iv 0,iv 0,iv 0,iv 0,iv 0,iv 0,iv 0,iv 0,iv 0,iv 0,bv false,bv false,iv 0,iv 0,bv false,iv 0,iv 0,iv 0,iv 0,iv 0,iv 0,iv 0,iv 0,iv 0,iv 0,iv 0,iv 0,iv 0,iv 0,bv false,iv 0,sv ([]:List UInt8),iv 0] 164::(vo A1e 115 r6 qs7)++((vo A1e 115 r2 qs3)++([])))) (fun ⟨⟨r6,qs7⟩,hk8⟩=>M1 [vo A1e 115 r6 qs7,[bx b1 [iv 0,iv 0,.slice none 0 0,.slice none 0 0,bv false,.slice none 0 0,iv 0,iv 0,bv false,iv 0,iv 0,iv 0,iv 0,iv 0,iv 0,iv 0,iv 0,iv 0,iv 0,iv 0,iv 0,iv 0,iv 0,bv false,bv false,bv false,bv false,bv false,bv false,bv false,bv false,bv false,bv false,bv false,iv 0,bv false,iv 0,iv 0,.slice none 0 0,bv false,iv 0,iv 0,bv false,iv 0,iv 0,iv 0,iv 0,iv 0,iv 0,iv 0,iv 0,iv 0,iv 0,iv 0,iv 0,iv 0,iv 0,bv false,bv false,iv 0,iv 0,bv false,iv 0,iv 0,iv 0,iv 0,iv 0,iv 0,iv 0,iv 0,iv 0,iv 0,iv 0,iv 0,iv 0,iv 0,bv false,iv 0,sv ([]:List UInt8),iv 0] 164],vo A1e 115 r2 qs3] [1,0,2] 3 rfl (by decide) (by first|rfl|simp) [[bx b1 [iv 0,iv 0,.slice none 0 0,.slice none 0 0,bv false,.slice none 0 0,iv 0,iv 0,bv false,iv 0,iv 0,iv 0,iv 0,iv 0,iv 0,iv 0,iv 0,iv 0,iv 0,iv 0,iv 0,iv 0,iv 0,bv false,bv false,bv false,bv false,bv false,bv false,bv false,bv false,bv false,bv false,bv false,iv 0,bv false,iv 0,iv 0,.slice none 0 0,bv false,iv 0,iv 0,bv false,iv 0,iv 0,iv 0,iv 0,iv 0,iv 0,iv 0,iv 0,iv 0,iv 0,iv 0,iv 0,iv 0,iv 0,bv false,bv false,iv 0,iv 0,bv false,iv 0,iv 0,iv 0,iv 0,iv 0,iv 0,iv 0,iv 0,iv 0,iv 0,iv 0,iv 0,iv 0,iv 0,bv false,iv 0,sv ([]:List UInt8),iv 0] 164],vo A1e 115 r6 qs7,vo A1e 115 r2 qs3] rfl (by first|rfl|simp))) fun ⟨⟨r6,qs7⟩,hk8⟩=>?_))))
 try dsimp only at hk8
 have:=VOk.le hk8
 have:=VOk.cap hk8
 refine ip' 5 0 [(8,.slice (va r6.q) qs7.length r6.k)] (ie (sr 7 rfl (ip' 1 6 [(30,iv cols)] ?_)))
 have hQ:=E9 hR;clear hR;obtain ⟨y2,hy2,hR⟩:=hQ
 refine it rfl (R9 (L2:=(bx b1 [iv 0,iv 0,.slice none 0 0,.slice none 0 0,bv false,.slice none 0 0,iv 0,iv 0,bv false,iv 0,iv 0,iv 0,iv 0,iv 0,iv 0,iv 0,iv 0,iv 0,iv 0,iv 0,iv 0,iv 0,iv 0,bv false,bv false,bv false,bv false,bv false,bv false,bv false,bv false,bv false,bv false,bv false,iv 0,bv false,iv 0,iv 0,.slice none 0 0,bv false,iv 0,iv 0,bv false,iv 0,iv 0,iv 0,iv 0,iv 0,iv 0,iv 0,iv 0,iv 0,iv 0,iv 0,iv 0,iv 0,iv 0,bv false,bv false,iv 0,iv 0,bv false,iv 0,iv 0,iv 0,iv 0,iv 0,iv 0,iv 0,iv 0,iv 0,iv 0,iv 0,iv 0,iv 0,iv 0,bv false,iv 0,sv ([]:List UInt8),iv 0] 164::(vo A1e 115 r6 qs7)++((vo A1e 115 r2 qs3)++([])))) (C9k cols y2 hy2) rfl rfl rfl rfl rfl fn0 (List.Perm.refl _) (fun ⟨r9,hk10⟩=>(bx b1 [iv 0,iv 0,.slice none 0 0,.slice none 0 0,bv false,.slice none 0 0,iv 0,iv 0,bv false,iv 0,iv 0,iv 0,iv 0,iv 0,iv 0,iv 0,iv 0,iv 0,iv 0,iv 0,iv 0,iv 0,iv 0,bv false,bv false,bv false,bv false,bv false,bv false,bv false,bv false,bv false,bv false,bv false,iv 0,bv false,iv 0,iv 0,.slice none 0 0,bv false,iv 0,iv 0,bv false,iv 0,iv 0,iv 0,iv 0,iv 0,iv 0,iv 0,iv 0,iv 0,iv 0,iv 0,iv 0,iv 0,iv 0,bv false,bv false,iv 0,iv 0,bv false,iv 0,iv 0,iv 0,iv 0,iv 0,iv 0,iv 0,iv 0,iv 0,iv 0,iv 0,iv 0,iv 0,iv 0,bv false,iv 0,sv ([]:List UInt8),iv 0] 164::(vo A8w 4 r9 y2.1)++((vo A1e 115 r6 qs7)++((vo A1e 115 r2 qs3)++([]))))) (fun ⟨r9,hk10⟩=>M1 [vo A8w 4 r9 y2.1,[bx b1 [iv 0,iv 0,.slice none 0 0,.slice none 0 0,bv false,.slice none 0 0,iv 0,iv 0,bv false,iv 0,iv 0,iv 0,iv 0,iv 0,iv 0,iv 0,iv 0,iv 0,iv 0,iv 0,iv 0,iv 0,iv 0,bv false,bv false,bv false,bv false,bv false,bv false,bv false,bv false,bv false,bv false,bv false,iv 0,bv false,iv 0,iv 0,.slice none 0 0,bv false,iv 0,iv 0,bv false,iv 0,iv 0,iv 0,iv 0,iv 0,iv 0,iv 0,iv 0,iv 0,iv 0,iv 0,iv 0,iv 0,iv 0,bv false,bv false,iv 0,iv 0,bv false,iv 0,iv 0,iv 0,iv 0,iv 0,iv 0,iv 0,iv 0,iv 0,iv 0,iv 0,iv 0,iv 0,iv 0,bv false,iv 0,sv ([]:List UInt8),iv 0] 164],vo A1e 115 r6 qs7,vo A1e 115 r2 qs3] [1,0,2,3] 4 rfl (by decide) (by first|rfl|simp) [[bx b1 [iv 0,iv 0,.slice none 0 0,.slice none 0 0,bv false,.slice none 0 0,iv 0,iv 0,bv false,iv 0,iv 0,iv 0,iv 0,iv 0,iv 0,iv 0,iv 0,iv 0,iv 0,iv 0,iv 0,iv 0,iv 0,bv false,bv false,bv false,bv false,bv false,bv false,bv false,bv false,bv false,bv false,bv false,iv 0,bv false,iv 0,iv 0,.slice none 0 0,bv false,iv 0,iv 0,bv false,iv 0,iv 0,iv 0,iv 0,iv 0,iv 0,iv 0,iv 0,iv 0,iv 0,iv 0,iv 0,iv 0,iv 0,bv false,bv false,iv 0,iv 0,bv false,iv 0,iv 0,iv 0,iv 0,iv 0,iv 0,iv 0,iv 0,iv 0,iv 0,iv 0,iv 0,iv 0,iv 0,bv false,iv 0,sv ([]:List UInt8),iv 0] 164],vo A8w 4 r9 y2.1,vo A1e 115 r6 qs7,vo A1e 115 r2 qs3] rfl (by first|rfl|simp))) fun ⟨r9,hk10⟩=>?_
 have:=VOk.le hk10
 have:=VOk.cap hk10
 refine ip' 5 0 [(10,.slice (va r9.q) y2.1.length r9.k),(7,iv y2.2)] (ie (sr 12 rfl (ip' 4 8 [(34,iv cols),(35,iv rows),(36,.slice (va r2.q) qs3.length r2.k),(37,.slice (va r6.q) qs7.length r6.k)] ?_)))
 have hQ:=E9 hR;clear hR;obtain ⟨y0,hy0,hR⟩:=hQ
 refine zca (D0h y0 hy0) fn0 (ip' 1 6 [(39,iv rows)] (ix rfl (I9.pure rfl) (zrg 5 0 [0] [(5,iv y2.2)] (bx b1 [iv cols,iv rows,.slice (va r2.q) qs3.length r2.k,.slice (va r6.q) qs7.length r6.k,bv false,.slice none 0 0,iv 0,iv 0,bv false,iv 0,iv 0,iv 0,iv 0,iv 0,iv 0,iv 0,iv 0,iv 0,iv 0,iv 0,iv 0,iv 0,iv 0,bv y0.1,bv y0.2.1,bv y0.2.2.1,bv y0.2.2.2.1,bv y0.2.2.2.2.1,bv y0.2.2.2.2.2.1,bv y0.2.2.2.2.2.2.1,bv y0.2.2.2.2.2.2.2.1,bv y0.2.2.2.2.2.2.2.2.1,bv y0.2.2.2.2.2.2.2.2.2.1,bv y0.2.2.2.2.2.2.2.2.2.2.1,iv y0.2.2.2.2.2.2.2.2.2.2.2.1,bv y0.2.2.2.2.2.2.2.2.2.2.2.2,iv 0,iv (IntKind.i64.wrap (rows - (1:Int))),.slice (va r9.q) y2.1.length r9.k,bv false,iv 0,iv 0,bv false,iv 0,iv 0,iv 0,iv 0,iv 0,iv 0,iv 0,iv 0,iv 0,iv 0,iv 0,iv 0,iv 0,iv 0,bv false,bv false,iv 0,iv 0,bv false,iv 0,iv 0,iv 0,iv 0,iv 0,iv 0,iv 0,iv 0,iv 0,iv 0,iv 0,iv 0,iv 0,iv 0,bv false,iv 0,sv ([]:List UInt8),iv 0] 164::(vo A8w 4 r9 y2.1)++((vo A1e 115 r6 qs7)++((vo A1e 115 r2 qs3)++([])))) ?_)))
 subst hR
 refine ie (B1 ?_)
 exact zer hr hD (A4c rfl (G1 (us:=[iv cols,iv rows,.slice (va r2.q) qs3.length r2.k,.slice (va r6.q) qs7.length r6.k,bv false,.slice none 0 0,iv 0,iv 0,bv false,iv 0,iv 0,iv 0,iv 0,iv 0,iv 0,iv 0,iv 0,iv 0,iv 0,iv 0,iv 0,iv 0,iv 0,bv y0.1,bv y0.2.1,bv y0.2.2.1,bv y0.2.2.2.1,bv y0.2.2.2.2.1,bv y0.2.2.2.2.2.1,bv y0.2.2.2.2.2.2.1,bv y0.2.2.2.2.2.2.2.1,bv y0.2.2.2.2.2.2.2.2.1,bv y0.2.2.2.2.2.2.2.2.2.1,bv y0.2.2.2.2.2.2.2.2.2.2.1,iv y0.2.2.2.2.2.2.2.2.2.2.2.1,bv y0.2.2.2.2.2.2.2.2.2.2.2.2,iv 0,iv (IntKind.i64.wrap (rows - (1:Int))),.slice (va r9.q) y2.1.length r9.k,bv false,iv 0,iv 0,bv false,iv 0,iv 0,iv 0,iv 0,iv 0,iv 0,iv 0,iv 0,iv 0,iv 0,iv 0,iv 0,iv 0,iv 0,bv false,bv false,iv 0,iv 0,bv false,iv 0,iv 0,iv 0,iv 0,iv 0,iv 0,iv 0,iv 0,iv 0,iv 0,iv 0,iv 0,iv 0,iv 0,bv false,iv 0,sv ([]:List UInt8),iv 0]) D7i rfl 0 rfl rfl rfl) (C0 rfl)) ⟨[iv cols,iv rows,.slice (va r2.q) qs3.length r2.k,.slice (va r6.q) qs7.length r6.k,bv false,.slice none 0 0,iv 0,iv 0,bv false,iv 0,iv 0,iv 0,iv 0,iv 0,iv 0,iv 0,iv 0,iv 0,iv 0,iv 0,iv 0,iv 0,iv 0,bv y0.1,bv y0.2.1,bv y0.2.2.1,bv y0.2.2.2.1,bv y0.2.2.2.2.1,bv y0.2.2.2.2.2.1,bv y0.2.2.2.2.2.2.1,bv y0.2.2.2.2.2.2.2.1,bv y0.2.2.2.2.2.2.2.2.1,bv y0.2.2.2.2.2.2.2.2.2.1,bv y0.2.2.2.2.2.2.2.2.2.2.1,iv y0.2.2.2.2.2.2.2.2.2.2.2.1,bv y0.2.2.2.2.2.2.2.2.2.2.2.2,iv 0,iv (IntKind.i64.wrap (rows - (1:Int))),.slice (va r9.q) y2.1.length r9.k,bv false,iv 0,iv 0,bv false,iv 0,iv 0,iv 0,iv 0,iv 0,iv 0,iv 0,iv 0,iv 0,iv 0,iv 0,iv 0,iv 0,iv 0,bv false,bv false,iv 0,iv 0,bv false,iv 0,iv 0,iv 0,iv 0,iv 0,iv 0,iv 0,iv 0,iv 0,iv 0,iv 0,iv 0,iv 0,iv 0,bv false,iv 0,sv ([]:List UInt8),iv 0],by exact ⟨rfl,rfl⟩⟩ (List.nil_sublist _) fn0
def I0 (row:Int) (col:Int) (p2:Int) (p3:Int):Bool :=
 ((((decide ((0:Int)≤row))&&(decide (row<p2)))&&(decide ((0:Int)≤col)))&&(decide (col<p3)))
theorem A9c (row:Int) (col:Int) (p2:Int) (p3:Int) (p2p:Addr) (p3p:Addr) (R:Bool) (hR:I0 row col p2 p3=R):M6 Tryz.prog 104 [iv row,iv col,pa p2p,pa p3p] [at_ p2p [iv p2],at_ p3p [iv p3]] (bv R):=by
 refine zco Tryz.func104 [(0,iv row),(1,iv col),(2,pa p2p),(3,pa p3p)] fun X hX hr hD=>?_
 replace hR:=(I0.eq_1 ..).symm.trans hR
 refine sr 1 rfl (ip' 1 0 [] (ie (sr 17 rfl (ip' 3 14 [(9,bv (decide ((0:Int)≤row)))] ?_))))
 refine zid 4 10 9 13 (decide (row<p2)) (fun g1 g1p=>?_) ?_
 ·refine ip' 1 3 [(10,iv row)] (ix rfl (C9 (v:=iv p2) (us:=[iv p2]) ty3 rfl rfl (A2 0 rfl) rfl) (ip' 2 0 [(13,bv (decide (row<p2)))] ?_))
  exact zai 4 9 13 g1
 refine ip' 1 9 [(14,bv ((decide ((0:Int)≤row))&&(decide (row<p2))))] ?_
 refine zia 3 6 14 17 (decide ((0:Int)≤col)) (fun g2=>?_) ?_
 ·have g2p:((0:Int)≤row)∧(row<p2):=by simpa using g2
  refine ip' 3 0 [(17,bv (decide ((0:Int)≤col)))] ?_
  exact zai 2 14 17 g2
 refine ip' 1 5 [(18,bv (((decide ((0:Int)≤row))&&(decide (row<p2)))&&(decide ((0:Int)≤col))))] ?_
 refine zia 4 1 18 22 (decide (col<p3)) (fun g3=>?_) ?_
 ·have g3p:(((0:Int)≤row)∧(row<p2))∧((0:Int)≤col):=by simpa using g3
  refine ip' 1 3 [(19,iv col)] (ix rfl (C9 (v:=iv p3) (us:=[iv p3]) ty3 rfl rfl (A2 1 rfl) rfl) (ip' 2 0 [(22,bv (decide (col<p3)))] ?_))
  exact zai 4 18 22 g3
 refine ip' 1 0 [(6,bv ((((decide ((0:Int)≤row))&&(decide (row<p2)))&&(decide ((0:Int)≤col)))&&(decide (col<p3))))] ?_
 subst hR
 refine ie (B1 ?_)
 exact H1 hr hD
@[reducible] def E4y:List Value:=[iv 0,iv 0,.slice none 0 0,.slice none 0 0,bv false,.slice none 0 0,iv 0,iv 0,bv false,iv 0,iv 0,iv 0,iv 0,iv 0,iv 0,iv 0,iv 0,iv 0,iv 0,iv 0,iv 0,iv 0,iv 0,bv false,bv false,bv false,bv false,bv false,bv false,bv false,bv false,bv false,bv false,bv false,iv 0,bv false,iv 0,iv 0,.slice none 0 0,bv false,iv 0,iv 0,bv false,iv 0,iv 0,iv 0,iv 0,iv 0,iv 0,iv 0,iv 0,iv 0,iv 0,iv 0,iv 0,iv 0,iv 0,bv false,bv false,iv 0,iv 0,bv false,iv 0,iv 0,iv 0,iv 0,iv 0,iv 0,iv 0,iv 0,iv 0,iv 0,iv 0,iv 0,iv 0,iv 0,bv false,iv 0,sv ([]:List UInt8),iv 0]
def F3 (cols:Int) (rows:Int) (p:Pth):Int :=
 (bif ((((!decide ((V8 cols rows)=0))||(!(I0 p.frm.row p.frm.col rows cols)))||(!(I0 p.to_.row p.to_.col rows cols)))||(p.frm.wrap&&(!decide (p.frm.col=(IntKind.i64.wrap (cols - (1:Int))))))) then 2 else 0)
theorem B0w (cols:Int) (rows:Int) (p:Pth) (R:Int) (hR:F3 cols rows p=R):M6 Tryz.prog 51 [iv cols,iv rows,ag (F2 p)] [] (iv R):=by
 refine zco Tryz.func51 [(0,iv cols),(1,iv rows),(2,ag (F2 p))] fun X hX hr hD=>?_
 replace hR:=(F3.eq_1 ..).symm.trans hR
 refine sr 4 rfl (it rfl (Y1 (cs:=[iv cols]) rfl rfl rfl) fun b1=>?_)
 refine A1l 0 rfl ?_
 refine it rfl (Y1 (cs:=[iv rows]) rfl rfl rfl) fun b2=>?_
 refine A1l 0 rfl ?_
 refine it rfl (Y1 (cs:=F2 p) rfl rfl rfl) fun b3=>?_
 refine A1l 0 rfl ?_
 refine ip' 1 0 [] (ie (sr 9 rfl (ix rfl (C9 (v:=iv cols) (us:=[iv cols]) ty3 rfl rfl (A2 2 rfl) rfl) (ix rfl (C9 (v:=iv rows) (us:=[iv rows]) ty3 rfl rfl (A2 1 rfl) rfl) ?_))))
 refine zcm (C5t cols rows _ rfl) fn0 fun ⟨u4,hu5⟩=>?_
 refine Q9 4 2 [] (fun b6=>[(14,ag u4),(15,iv (V8 cols rows)),(7,pt b6 0)]) (fun b6=>[bx b6 E4y 164]) (fun b6=>?_)
 refine it rfl (U6 (us:=u4) (cs':=u4) D7i rfl rfl rfl 0 rfl rfl hu5.1 hu5.2 (C6n (by rw [hu5.1];rfl)) rfl) fun _=>?_
 refine ip' 1 0 [(8,iv (V8 cols rows))] (ie (sr 2 rfl (ip' 2 0 [(9,.func (.func 104) #[] #[pa (⟨b2,0,none⟩:Addr),pa (⟨b1,0,none⟩:Addr)])] (ie (A7 (sr 37 rfl (ip' 3 34 [(19,bv (!decide ((V8 cols rows)=0)))] ?_)))))))
 refine zio 10 24 19 29 (!(I0 p.frm.row p.frm.col rows cols)) (fun g7=>?_) ?_
 ·have g7p:¬ (¬ (V8 cols rows)=0):=by simpa using g7
  refine ip' 3 7 [(20,.func (.func 104) #[] #[pa (⟨b2,0,none⟩:Addr),pa (⟨b1,0,none⟩:Addr)]),(22,pa (⟨b3,0,none⟩:Addr))] (ix rfl (C9 (v:=iv p.frm.row) (us:=[iv p.frm.row]) ty3 rfl rfl (S7 (S7 (A2 0 rfl) (ws:=O0 p.frm) 3 rfl) (ws:=[iv p.frm.row]) 1 rfl) rfl) (ip' 2 4 [(25,pa ((⟨b3,0,none⟩:Addr).add 1))] (ix rfl (C9 (v:=iv p.frm.col) (us:=[iv p.frm.col]) ty3 rfl rfl (A3c (S7 (A2 0 rfl) (ws:=O0 p.frm) 3 rfl) (ws:=[iv p.frm.col]) 1 1 rfl) rfl) (zca (A9c p.frm.row p.frm.col rows cols (⟨b2,0,none⟩:Addr) (⟨b1,0,none⟩:Addr) _ rfl) (A0.pick [1,2] rfl) (ip' 2 0 [(29,bv (!(I0 p.frm.row p.frm.col rows cols)))] ?_)))))
  exact zai 8 19 29 g7
 refine ip' 1 23 [(30,bv ((!decide ((V8 cols rows)=0))||(!(I0 p.frm.row p.frm.col rows cols))))] ?_
 refine zio 10 13 30 40 (!(I0 p.to_.row p.to_.col rows cols)) (fun g8=>?_) ?_
 ·have g8p:=g8;try simp at g8p
  refine ip' 3 7 [(31,.func (.func 104) #[] #[pa (⟨b2,0,none⟩:Addr),pa (⟨b1,0,none⟩:Addr)]),(33,pa ((⟨b3,0,none⟩:Addr).add 3))] (ix rfl (C9 (v:=iv p.to_.row) (us:=[iv p.to_.row]) ty3 rfl rfl (S7 (A3c (A2 0 rfl) (ws:=P3 p.to_) 3 2 rfl) (ws:=[iv p.to_.row]) 1 rfl) rfl) (ip' 2 4 [(36,pa (((⟨b3,0,none⟩:Addr).add 3).add 1))] (ix rfl (C9 (v:=iv p.to_.col) (us:=[iv p.to_.col]) ty3 rfl rfl (A3c (A3c (A2 0 rfl) (ws:=P3 p.to_) 3 2 rfl) (ws:=[iv p.to_.col]) 1 1 rfl) rfl) (zca (A9c p.to_.row p.to_.col rows cols (⟨b2,0,none⟩:Addr) (⟨b1,0,none⟩:Addr) _ rfl) (A0.pick [1,2] rfl) (ip' 2 0 [(40,bv (!(I0 p.to_.row p.to_.col rows cols)))] ?_)))))
  exact zai 8 30 40 g8
 refine ip' 1 12 [(41,bv (((!decide ((V8 cols rows)=0))||(!(I0 p.frm.row p.frm.col rows cols)))||(!(I0 p.to_.row p.to_.col rows cols))))] ?_
 refine zio 12 0 41 53 (p.frm.wrap&&(!decide (p.frm.col=(IntKind.i64.wrap (cols - (1:Int)))))) (fun g9=>?_) ?_
 ·have g9p:=g9;try simp at g9p
  refine ip' 2 10 [(43,pa ((⟨b3,0,none⟩:Addr).add 2))] (ix rfl (C9 (v:=bv p.frm.wrap) (us:=[bv p.frm.wrap]) ty4 rfl rfl (A3c (S7 (A2 0 rfl) (ws:=O0 p.frm) 3 rfl) (ws:=[bv p.frm.wrap]) 2 1 rfl) rfl) (ip' 1 8 [(45,bv p.frm.wrap)] ?_))
  refine zia 7 1 45 52 (!decide (p.frm.col=(IntKind.i64.wrap (cols - (1:Int))))) (fun g10=>?_) ?_
  ·refine ip' 2 5 [(47,pa ((⟨b3,0,none⟩:Addr).add 1))] (ix rfl (C9 (v:=iv p.frm.col) (us:=[iv p.frm.col]) ty3 rfl rfl (A3c (S7 (A2 0 rfl) (ws:=O0 p.frm) 3 rfl) (ws:=[iv p.frm.col]) 1 1 rfl) rfl) (ix rfl (C9 (v:=iv cols) (us:=[iv cols]) ty3 rfl rfl (A2 2 rfl) rfl) (ix rfl (I9.pure rfl) (ip' 2 0 [(52,bv (!decide (p.frm.col=(IntKind.i64.wrap (cols - (1:Int))))))] ?_))))
   exact zai 6 45 52 g10
  refine ip' 1 0 [(53,bv (p.frm.wrap&&(!decide (p.frm.col=(IntKind.i64.wrap (cols - (1:Int)))))))] ?_
  exact zai 6 41 53 g9
 refine ie ?_
 refine zjb rfl hR ?_ ?_<;>clear hR<;>intro hR h11
 ·have h11p:=h11;try simp at h11p
  refine sr 1 rfl (ip' 1 0 [(6,iv 2)] ?_)
  subst hR
  refine ie (B1 ?_)
  exact H1 hr hD
 have h11p:=h11;try simp at h11p
 refine A9 (nx (sr 1 rfl (ip' 1 0 [(6,iv 0)] ?_)))
 subst hR
 refine ie (B1 ?_)
 exact H1 hr hD
theorem D9d {c r:Int} {s:Sty} (h:A2m c r s=0):2≤c∧c≤80∧1≤r∧r≤40:=by
 unfold A2m at h
 by_cases hb:2≤c∧c≤80∧1≤r∧r≤40
 ·exact hb
 ·rw [show ((((decide (c<2))||(decide ((80:Int)<c)))||(decide (r<1)))||(decide ((40:Int)<r)))=true by simp only [Bool.or_eq_true,decide_eq_true_eq];omega] at h
  exact absurd (show (2:Int)=0 from h) (by decide)
theorem D3s {c r:Int} (h:V8 c r=0):2≤c∧c≤80∧1≤r∧r≤40:=by
 unfold V8 at h
 cases hg:decide (A2m c r Sty.zero=0) with
 | true=>exact D9d (of_decide_eq_true hg)
 | false =>
  rw [hg] at h
  exact absurd (show A2m c r Sty.zero=0 from h) (of_decide_eq_false hg)
theorem D0l {c r:Int} {p:Pth} (h:(!decide (F3 c r p=0))=false):(2≤c∧c≤80∧1≤r∧r≤40)∧(0≤p.frm.row∧p.frm.row<r∧0≤p.frm.col∧p.frm.col<c)∧(0≤p.to_.row∧p.to_.row<r∧0≤p.to_.col∧p.to_.col<c)∧(p.frm.wrap=true→p.frm.col=c - 1):=by
 have h0:F3 c r p=0:=by simpa using h
 unfold F3 at h0
 revert h0
 cases hq:(!decide ((V8 c r)=0)) with
 | true=>intro h0;exact absurd (show (2:Int)=0 from h0) (by decide)
 | false =>
  have hs:=D3s (c:=c) (r:=r) (by simpa using hq)
  cases h1:I0 p.frm.row p.frm.col r c with
  | false=>intro h0;exact absurd (show (2:Int)=0 from h0) (by decide)
  | true =>
   cases h2:I0 p.to_.row p.to_.col r c with
   | false=>intro h0;exact absurd (show (2:Int)=0 from h0) (by decide)
   | true =>
    unfold I0 at h1 h2
    simp only [Bool.and_eq_true,decide_eq_true_eq] at h1 h2
    cases h3:p.frm.wrap with
    | false=>intro _;exact ⟨hs,⟨h1.1.1.1,h1.1.1.2,h1.1.2,h1.2⟩,⟨h2.1.1.1,h2.1.1.2,h2.1.2,h2.2⟩,fun e=>by cases e⟩
    | true =>
     intro h0
     rw [D5v (by show (-9223372036854775808:Int)≤_;omega) (by show _≤(9223372036854775807:Int);omega)] at h0
     refine ⟨hs,⟨h1.1.1.1,h1.1.1.2,h1.1.2,h1.2⟩,⟨h2.1.1.1,h2.1.1.2,h2.1.2,h2.2⟩,fun _=>?_⟩
     by_cases h4:p.frm.col=c - 1
     ·exact h4
     ·rw [decide_eq_false h4] at h0
      exact absurd (show (2:Int)=0 from h0) (by decide)
theorem A5x {c r:Int} {c0:Pth} (h:(!decide (F3 c r c0=0))=false):(0≤c0.frm.row∧c0.frm.row≤40∧0≤c0.to_.row∧c0.to_.row≤40)∧(0≤c0.frm.col∧c0.frm.col≤80∧0≤c0.to_.col∧c0.to_.col≤80):=by
 have:=D0l h;omega
end Go.Proofs.YtanighkpfmgnbaaGreatDoor
set_option linter.unusedVariables false
set_option linter.unusedSimpArgs false
set_option linter.unnecessarySimpa false
set_option maxRecDepth 100000
namespace Go.Proofs.YtanighkpfmgnbaaGreatDoor
open Go Go.Fen
theorem D5x:ApTy Tryz.prog 27 26 6 56:=⟨by kernel_rfl,by kernel_rfl,rfl⟩
theorem B9h:ApTy Tryz.prog 55 27 1 24:=⟨by kernel_rfl,by kernel_rfl,rfl⟩
theorem B5f:SlTy Tryz.prog 55 27 1:=⟨by kernel_rfl,by kernel_rfl⟩
theorem E2z:Ty Tryz.prog 27 1 false:=⟨by kernel_rfl⟩
theorem D9p:Ty Tryz.prog 100 5 true:=⟨by kernel_rfl⟩
def K4 (p:Pth):Pth :=
 p
theorem A8v (p:Pth) (R:Pth) (hR:K4 p=R):Con Tryz.prog 52 [ag (F2 p)] [] [] (Addr) (fun x=>.func (.func 105) #[] #[pa x]) (fun x=>[]) (fun x=>[at_ x (F2 R)]):=by
 refine zco Tryz.func52 [(0,ag (F2 p))] fun X hX hr hD=>?_
 replace hR:=(K4.eq_1 ..).symm.trans hR
 refine sr 2 rfl (it rfl (Y1 (cs:=F2 p) rfl rfl rfl) fun b1=>?_)
 refine A1l 0 rfl ?_
 refine ip' 1 0 [] (ie (sr 2 rfl (ip' 2 0 [(2,.func (.func 105) #[] #[pa (⟨b1,0,none⟩:Addr)])] ?_)))
 subst hR
 refine ie (B1 ?_)
 exact zer hr hD (P5 rfl (C0 rfl)) (⟨b1,0,none⟩:Addr) (mk [] rfl) (A0.con1 (A2 0 rfl) fn0)
def M8 (p:Pth):Pth :=
 p
theorem B6e (p:Pth) (R:Pth) (hR:M8 p=R):Con Tryz.prog 107 [ag (F2 p)] [] [] (Addr) (fun x=>.func (.func 152) #[] #[pa x]) (fun x=>[]) (fun x=>[at_ x (F2 R)]):=by
 refine zco Tryz.func107 [(0,ag (F2 p))] fun X hX hr hD=>?_
 replace hR:=(M8.eq_1 ..).symm.trans hR
 refine sr 2 rfl (it rfl (Y1 (cs:=F2 p) rfl rfl rfl) fun b1=>?_)
 refine A1l 0 rfl ?_
 refine ip' 1 0 [] (ie (sr 2 rfl (ip' 2 0 [(2,.func (.func 152) #[] #[pa (⟨b1,0,none⟩:Addr)])] ?_)))
 subst hR
 refine ie (B1 ?_)
 exact zer hr hD (P5 rfl (C0 rfl)) (⟨b1,0,none⟩:Addr) (mk [] rfl) (A0.con1 (A2 0 rfl) fn0)
def E1e (a:Act):Prop:=a.text=[]∧-1000≤a.n∧a.n≤1000∧-1000≤a.m∧a.m≤1000∧(a.kind=20→0≤a.n∧a.n≤3)
def mwA (e:List Act):Prop:=e.length≤50∧∀ a ∈ e,E1e a
theorem D4w {l:List (List Act)} (h:∀ e ∈ l,mwA e) (k:Nat):(l.getD k []).length≤50:=by
 rw [List.getD_eq_getElem?_getD]
 cases h3:l[k]? with
 | none=>exact Nat.zero_le _
 | some y=>exact (h y (List.mem_of_getElem? h3)).1
theorem D2a {a:Act} (h:E1e a):mwA [a]:=⟨Nat.le_of_ble_eq_true rfl,fun b hb=>by rw [List.mem_singleton.1 hb];exact h⟩
def B1l (e:List Act):Prop:=e.length≤100∧∀ a ∈ e,E1e a
theorem A4d {el:List Act} (h:B1l el):∀ a ∈ el,a.text.length≤100000000:=fun a ha=>by
 rw [(h.2 a ha).1];exact Nat.zero_le _
theorem B8l {el:List Act} {rest:List (List Act)} (h:∀ e ∈ el::rest,B1l e):∀ a ∈ el,a.text.length≤100000000:=A4d (h el (List.mem_cons_self ..))
theorem B8d {l:List (List Act)} (h:∀ e ∈ l,B1l e) (k:Nat):B1l (l.getD k []):=by
 rw [List.getD_eq_getElem?_getD]
 cases h3:l[k]? with
 | none=>exact ⟨Nat.zero_le _,fun a ha=>by cases ha⟩
 | some y=>exact h y (List.mem_of_getElem? h3)
def K9 (n:Int) (m:Int):List Act :=
 ([{Act.zero with kind:=20,n:=n,m:=m}]:List Act)
theorem B3f {n m:Int} (h:0≤n∧n≤3∧0≤m∧m≤1000):mwA (K9 n m) :=
 D2a ⟨rfl,show -1000≤n by omega,show n≤1000 by omega,show -1000≤m by omega,show m≤1000 by omega,fun _=>⟨h.1,h.2.1⟩⟩
theorem A3r (n:Int) (m:Int) (R:List Act) (hR:K9 n m=R):Con Tryz.prog 150 [iv n,iv m] [] [] ({t:Option Addr×Nat // R.length≤t.2∧R.length≤9223372036854775807}) (fun x=>.slice x.1.1 R.length x.1.2) (fun x=>[]) (fun x=>[sl B0 x.1.1 R]):=by
 refine zco Tryz.func150 [(0,iv n),(1,iv m)] fun X hX hr hD=>?_
 replace hR:=(K9.eq_1 ..).symm.trans hR
 refine sr 1 rfl (ip' 1 0 [] (ie (sr 5 rfl (zrl 3 2 [] [(7,ag (B0 ({Act.zero with kind:=20,n:=n,m:=m})))] (it rfl (B7 (c:=B0) (xs:=([{Act.zero with kind:=20,n:=n,m:=m}]:List Act)) A6u rfl rfl rfl (by kernel_rfl)) fun b1=>?_)))))
 have:([{Act.zero with kind:=20,n:=n,m:=m}]:List Act).length=1:=rfl
 refine ip' 1 0 [(4,.slice (some ⟨b1,0,none⟩) 1 1)] ?_
 subst hR
 refine ie (B1 ?_)
 exact zer hr hD (P5 rfl (C0 rfl)) (zq (some ⟨b1,0,none⟩) 1) (mk [] rfl) (A0.con1 (A2 0 rfl) fn0)
def W4 (kind:Int) (times:Int):Nat→List Act→Nat→List Act
 | 0,_,_=>[]
 | fu1+1,out,t7=>(bif (decide ((t7:Int)<times)) then W4 kind times fu1 (out++([{Act.zero with kind:=kind}]:List Act)) (t7+1) else out)
def L8 (kind:Int) (times:Int):List Act :=
 W4 kind times ((times - (0:Int)).toNat+1) ([]:List Act) 0
theorem C1s (kind times:Int):∀ (n t fu:Nat) (out:List Act),(times - t).toNat=n→n<fu→W4 kind times fu out t=out++List.replicate n {Act.zero with kind:=kind}
 | 0,t,fu+1,out,h,_=>by
  rw [W4,decide_eq_false (by omega)];simp
 | n+1,t,fu+1,out,h,hf=>by
  rw [W4,decide_eq_true (by omega)]
  show W4 kind times fu (out++[{Act.zero with kind:=kind}]) (t+1)=_
  rw [C1s kind times n (t+1) fu _ (by omega) (by omega),List.append_assoc];rfl
theorem A6d (kind times:Int):L8 kind times=List.replicate times.toNat {Act.zero with kind:=kind}:=by
 unfold L8;rw [C1s kind times times.toNat 0 _ [] (by omega) (by omega)];rfl
theorem A8o {kind times:Int} {r:List Act} (h:L8 kind times=r) (ht:times≤50):r.length≤50∧mwA r:=by
 subst h;rw [A6d]
 refine ⟨by rw [List.length_replicate];omega,by rw [List.length_replicate];omega,fun a ha=>?_⟩
 rw [List.eq_of_mem_replicate ha];exact ⟨rfl,show (-1000:Int)≤0 by omega,show (0:Int)≤1000 by omega,show (-1000:Int)≤0 by omega,show (0:Int)≤1000 by omega,fun _=>⟨show (0:Int)≤0 by omega,show (0:Int)≤3 by omega⟩⟩
theorem A6c (kind:Int) (times:Int) (htm:times≤50) (R:List Act) (hR:L8 kind times=R):Con Tryz.prog 151 [iv kind,iv times] [] [] ({r:VR // VOk 6 R.length r}) (fun x=>.slice (va x.1.q) R.length x.1.k) (fun x=>((vo B0 26 x.1 R)++([]))) (fun x=>[]):=by
 refine zco Tryz.func151 [(0,iv kind),(1,iv times)] fun X hX hr hD=>?_
 replace hR:=(L8.eq_1 ..).symm.trans hR
 refine sr 1 rfl (ip' 1 0 [] (ie (sr 1 rfl (ip' 1 0 [(5,.slice none 0 0)] (ie (A7 (sr 2 rfl (ip' 2 0 [(6,iv times),(7,iv 0)] (ie (B2 ?_))))))))))
 refine B8v (fun (fu:Nat) (out:List Act) (outr:VR) (t7:Nat)=>((times - (t7:Int)).toNat<fu∧W4 kind times fu out t7=R∧VOk 6 out.length outr∧out.length=t7,[(0,iv kind),(5,.slice (va outr.q) out.length outr.k),(6,iv times),(7,iv (t7:Int))],((vo B0 26 outr out)++([])),[],fu)) ((times - (0:Int)).toNat+1) ([]:List Act) VR.nil 0 ⟨(Nat.lt_succ_self _),hR,VOk.nil,(by rfl)⟩ (mc [vo B0 26 VR.nil ([]:List Act)] [true] rfl (by first|rfl|(simp only [List.length_set]<;>rfl))) fn0 ?_
 rintro fu out outr t7 ⟨hm1,hR,hokoutr,hv⟩
 have:=VOk.le hokoutr
 obtain ⟨fu1,rfl⟩:∃ m,fu=m+1:=⟨fu - 1,by omega⟩
 replace hR:=(W4.eq_2 ..).symm.trans hR
 refine sr 1 rfl (ip' 1 0 [(8,bv (decide ((t7:Int)<times)))] (ie (A7 ?_)))
 refine zjd rfl hR ?_ ?_<;>clear hR<;>intro hR h2 h2p
 ·refine A9 (nx (A7 (B2 (A4 6 rfl (zrl 3 3 [] [(9,.slice (va outr.q) out.length outr.k),(11,ag (B0 ({Act.zero with kind:=kind})))] (it rfl (B7 (c:=B0) (xs:=([{Act.zero with kind:=kind}]:List Act)) A6u rfl rfl rfl (by kernel_rfl)) fun b3=>?_))))))
  have:([{Act.zero with kind:=kind}]:List Act).length=1:=rfl
  refine it rfl (B2p (f:=B0) (r:=outr) (xs:=out) (ys:=([{Act.zero with kind:=kind}]:List Act)) (pre:=[]) (post:=[]) D5x (fun _=>rfl) (fun _=>rfl) rfl rfl rfl rfl rfl rfl rfl rfl rfl (A2 0 rfl) hokoutr (by first|omega|(simp<;>omega)) (by first|omega|(simp<;>omega))) fun ⟨r4,hr5⟩=>?_
  have:=VOk.le hr5
  have:=VOk.cap hr5
  refine ip' 1 0 [(5,.slice (va r4.q) ((out++([{Act.zero with kind:=kind}]:List Act)).length) r4.k)] (A6 (nx (A4 2 rfl (ix rfl (B6 rfl rfl rfl rfl (by omega)) (ip' 1 0 [(7,iv ((t7:Int)+1))] (A6 ?_))))))
  exact B5b (z1:=(fu1+1)) (z2:=out) (z3:=outr) (z4:=t7) fu1 (out++([{Act.zero with kind:=kind}]:List Act)) r4 (t7+1) ⟨(by omega),hR,hr5,(by (simp<;>omega))⟩ (Nat.lt_succ_self _) (mc [vo B0 26 r4 (out++([{Act.zero with kind:=kind}]:List Act))] [true] rfl (by first|rfl|(simp only [List.length_set]<;>rfl))) fn0
 refine J5 (nx (sr 2 rfl (ip' 2 0 [(4,.slice (va outr.q) out.length outr.k)] ?_)))
 subst hR
 refine ie (B1 ?_)
 exact zer hr hD (P5 rfl (C0 rfl)) ⟨outr,hokoutr⟩ (mc [vo B0 26 outr out] [true] rfl (by first|rfl|(simp only [List.length_set]<;>rfl))) fn0
def F6 (c0:Pth):List (List Act) :=
 (bif (decide ((c0.to_.row - c0.frm.row)=0)) then (([]:List Act)::[]) else (bif (decide ((c0.to_.row - c0.frm.row)<0)) then (B4 (K9 0 (-(c0.to_.row - c0.frm.row))) fun (y1:List Act)=>(y1::[])) else (B4 (K9 1 (c0.to_.row - c0.frm.row)) fun (y4:List Act)=>(y4::(bif (decide ((c0.to_.row - c0.frm.row)≤4)) then (B4 (L8 5 (c0.to_.row - c0.frm.row)) fun (y0:List Act)=>(y0::[])) else [])))))
theorem C8a (c0:Pth) (hb:0≤c0.frm.row∧c0.frm.row≤40∧0≤c0.to_.row∧c0.to_.row≤40):∀ e ∈ F6 c0,mwA e:=by
 unfold F6 B4
 intro e he
 rcases Int.lt_trichotomy c0.frm.row c0.to_.row with h | h | h
 ·rw [decide_eq_false (show ¬ c0.to_.row - c0.frm.row=0 by omega),decide_eq_false (show ¬ c0.to_.row - c0.frm.row<0 by omega)] at he
  have he:e ∈ K9 1 (c0.to_.row - c0.frm.row)::(bif decide (c0.to_.row - c0.frm.row≤4) then [L8 5 (c0.to_.row - c0.frm.row)] else []):=he
  rcases List.mem_cons.1 he with rfl | he
  ·exact B3f (by omega)
  ·cases hd:decide (c0.to_.row - c0.frm.row≤4) with
   | true=>rw [hd] at he;rw [List.mem_singleton.1 he];exact (A8o rfl (by omega)).2
   | false=>rw [hd] at he;cases he
 ·rw [decide_eq_true (show c0.to_.row - c0.frm.row=0 by omega)] at he;rw [List.mem_singleton.1 he];exact ⟨Nat.zero_le _,fun a ha=>by cases ha⟩
 ·rw [decide_eq_false (show ¬ c0.to_.row - c0.frm.row=0 by omega),decide_eq_true (show c0.to_.row - c0.frm.row<0 by omega)] at he
  rw [List.mem_singleton.1 he];exact B3f (by omega)
theorem D4t (c0:Pth):(F6 c0).length≤2:=by
 unfold F6 B4;simp only [Bool.cond_eq_ite];repeat' split
 all_goals simp
theorem B3q (c0:Pth) (c0p:Addr) (hb:0≤c0.frm.row∧c0.frm.row≤40∧0≤c0.to_.row∧c0.to_.row≤40) (R:List (List Act)) (hR:F6 c0=R):B3e Tryz.prog 152 [pa c0p] [] [at_ c0p (F2 c0)] B0 R:=by
 refine C1h [] (n:=36) Tryz.func152 rfl (by kernel_rfl) rfl rfl (fun l=>[(0,.func (.yield l) #[] #[]),(1,pa c0p)]) (fun l=>⟨rfl,rfl,trivial⟩) fun X l I Ix L Φ hX hr hD hI0 hY=>?_
 replace hR:=(F6.eq_1 ..).symm.trans hR
 refine sr 8 rfl (ip' 2 6 [(5,pa (c0p.add 3))] (ix rfl (C9 (v:=iv c0.to_.row) (us:=[iv c0.to_.row]) ty3 rfl rfl (S7 (A3c (A2 0 rfl) (ws:=P3 c0.to_) 3 2 rfl) (ws:=[iv c0.to_.row]) 1 rfl) rfl) (ip' 2 3 [(8,pa c0p)] (ix rfl (C9 (v:=iv c0.frm.row) (us:=[iv c0.frm.row]) ty3 rfl rfl (S7 (S7 (A2 0 rfl) (ws:=O0 c0.frm) 3 rfl) (ws:=[iv c0.frm.row]) 1 rfl) rfl) (ix rfl (U7 rfl rfl rfl rfl (by omega)) (ip' 1 0 [(3,iv (c0.to_.row - c0.frm.row))] (ie (B2 (sr 3 rfl (ip' 3 0 [(23,bv (decide ((c0.to_.row - c0.frm.row)=0)))] ?_))))))))))
 refine ie ?_
 refine zjd rfl hR ?_ ?_<;>clear hR<;>intro hR h1 h1p
 ·refine A4 2 rfl (ip' 1 1 [(26,.func (.yield l) #[] #[])] ?_)
  have hq7:=B6x hR;clear hR;obtain ⟨R2,hR,hq7⟩:=hq7;rw [hq7] at hI0
  refine it rfl (A4i (L2:=[]) (hY ([]:List Act) R2 _ _ none 0 (by first|omega|(simp<;>omega)|(dsimp only;omega)|decide) (by first|omega|(simp<;>omega)|(dsimp only;omega)|decide) hI0) rfl rfl rfl rfl (A0.con1 A5c (A0.dropT 1 rfl)) (M1 [L] [0] 1 rfl (by decide) rfl [L] rfl (by simp only [List.flatten_cons,List.flatten_nil,List.append_nil,List.cons_append,List.nil_append,List.append_assoc]))) fun ⟨⟨y3,L4,Φ5⟩,hy6⟩=>?_
  refine A7o (A0.yield [at_ c0p (F2 c0)]) ?_
  subst hR
  refine A6 ?_
  exact Y2 rfl ⟨hr,hD⟩ (by simp [hD]) (B4y rfl) (L':=L4) (Φ':=Φ5) (by cases y3<;>first|exact .inr (by simpa using hy6)|exact .inl (by simpa using hy6)) (mcT [L4] 0 rfl rfl) (A0.dropT 1 rfl)
 refine sr 3 rfl (ip' 3 0 [(28,bv (decide ((c0.to_.row - c0.frm.row)<0)))] (ie ?_))
 refine zjd rfl hR ?_ ?_<;>clear hR<;>intro hR h8 h8p
 ·refine A4 5 rfl (ip' 2 3 [(31,.func (.yield l) #[] #[]),(32,iv (c0.to_.row - c0.frm.row))] (ix rfl (B4k rfl rfl rfl (by omega)) ?_))
  have hQ:=E9 hR;clear hR;obtain ⟨y1,hy1,hR⟩:=hQ
  refine zcm (A3r 0 (-(c0.to_.row - c0.frm.row)) y1 hy1) fn0 fun ⟨⟨q9,k10⟩,hp11⟩=>?_
  obtain ⟨hc12,hl13⟩:=hp11
  have:y1.length=1:=by rw [← hy1];rfl
  have hq19:=B6x hR;clear hR;obtain ⟨R14,hR,hq19⟩:=hq19;rw [hq19] at hI0
  refine it rfl (A4i (L2:=[]) (hY y1 R14 _ _ q9 k10 (by first|omega|(simp<;>omega)|(dsimp only;omega)|decide) (by first|omega|(simp<;>omega)|(dsimp only;omega)|decide) hI0) rfl rfl rfl rfl (A0.con1 (A2 0 rfl) (A0.dropT 2 rfl)) (M1 [L] [0] 1 rfl (by decide) rfl [L] rfl (by simp only [List.flatten_cons,List.flatten_nil,List.append_nil,List.cons_append,List.nil_append,List.append_assoc]))) fun ⟨⟨y15,L16,Φ17⟩,hy18⟩=>?_
  refine A7o (A0.yield [sl B0 q9 y1,at_ c0p (F2 c0)]) ?_
  subst hR
  refine A6 ?_
  exact Y2 rfl ⟨hr,hD⟩ (by simp [hD]) (B4y rfl) (L':=L16) (Φ':=Φ17) (by cases y15<;>first|exact .inr (by simpa using hy18)|exact .inl (by simpa using hy18)) (mcT [L16] 0 rfl rfl) (A0.dropT 2 rfl)
 refine sr 8 rfl (ip' 2 6 [(11,.func (.yield l) #[] #[]),(12,iv (c0.to_.row - c0.frm.row))] ?_)
 have hQ:=E9 hR;clear hR;obtain ⟨y4,hy4,hR⟩:=hQ
 refine zcm (A3r 1 (c0.to_.row - c0.frm.row) y4 hy4) fn0 fun ⟨⟨q20,k21⟩,hp22⟩=>?_
 obtain ⟨hc23,hl24⟩:=hp22
 have:y4.length=1:=by rw [← hy4];rfl
 have hq30:=B6x hR;clear hR;obtain ⟨R25,hR,hq30⟩:=hq30;rw [hq30] at hI0
 refine it rfl (A4i (L2:=[]) (hY y4 R25 _ _ q20 k21 (by first|omega|(simp<;>omega)|(dsimp only;omega)|decide) (by first|omega|(simp<;>omega)|(dsimp only;omega)|decide) hI0) rfl rfl rfl rfl (A0.con1 (A2 0 rfl) (A0.dropT 2 rfl)) (M1 [L] [0] 1 rfl (by decide) rfl [L] rfl (by simp only [List.flatten_cons,List.flatten_nil,List.append_nil,List.cons_append,List.nil_append,List.append_assoc]))) fun ⟨⟨y26,L27,Φ28⟩,hy29⟩=>?_
 refine A7o (A0.yield [sl B0 q20 y4,at_ c0p (F2 c0)]) ?_
 refine ip' 1 3 [(15,bv y26)] ?_
 rcases Bool.eq_false_or_eq_true y26 with g31 | g31
 ·refine D5r (b:=true) 15 rfl (by first|exact g31|(rw [g31];rfl)) ?_
  rw [g31] at hy29;try simp only [if_true,if_false,Bool.false_eq_true] at hy29
  refine ip' 3 0 [(18,bv (decide ((c0.to_.row - c0.frm.row)≤4)))] (ie ?_)
  refine zjd rfl hR ?_ ?_<;>clear hR<;>intro hR h32 h32p
  ·refine A4 4 rfl (ip' 2 2 [(19,.func (.yield l) #[] #[]),(20,iv (c0.to_.row - c0.frm.row))] ?_)
   have hQ:=E9 hR;clear hR;obtain ⟨y0,hy0,hR⟩:=hQ
   refine it rfl (R9 (L2:=(L27++([]))) (A6c 5 (c0.to_.row - c0.frm.row) (by omega) y0 hy0) rfl rfl rfl rfl rfl fn0 (List.Perm.refl _) (fun ⟨r33,hk34⟩=>(L27++((vo B0 26 r33 y0)++([])))) (fun ⟨r33,hk34⟩=>M1 [vo B0 26 r33 y0,L27] [1,0] 2 rfl (by decide) (by first|rfl|simp) [L27,vo B0 26 r33 y0] rfl (by first|rfl|simp))) fun ⟨r33,hk34⟩=>?_
   have:=VOk.le hk34
   have:=VOk.cap hk34
   have hmqrmotiondoes:=A8o hy0 (by omega)
   have:=hmqrmotiondoes.1;try rw [hy0] at this
   have:=VOk.cap hk34
   have:=VOk.le hk34
   refine A3w (L27++([])) [] (T:=26) (c:=B0) (r:=r33) (xs:=y0) hk34 (by first|rfl|simp only [List.flatten_cons,List.flatten_nil,List.cons_append,List.append_assoc,List.nil_append,List.append_nil]) ?_
   refine D6g (L':=(L27++([]))) (by first|rfl|simp) ?_
   have hq40:=B6x hR;clear hR;obtain ⟨R35,hR,hq40⟩:=hq40;rw [hq40] at hy29
   refine it rfl (A4i (L2:=[]) (hY y0 R35 _ _ (va r33.q) r33.k (by first|omega|(simp<;>omega)|(dsimp only;omega)|decide) (by first|omega|(simp<;>omega)|(dsimp only;omega)|decide) hy29) rfl rfl rfl rfl (A0.con1 (A2 0 rfl) (A0.dropT 3 rfl)) (M1 [L27] [0] 1 rfl (by decide) rfl [L27] rfl (by simp only [List.flatten_cons,List.flatten_nil,List.append_nil,List.cons_append,List.nil_append,List.append_assoc]))) fun ⟨⟨y36,L37,Φ38⟩,hy39⟩=>?_
   refine A7o (A0.yield [sl B0 (va r33.q) y0,sl B0 q20 y4,at_ c0p (F2 c0)]) ?_
   subst hR
   refine A6 ?_
   exact Y2 rfl ⟨hr,hD⟩ (by simp [hD]) (B4y rfl) (L':=L37) (Φ':=Φ38) (by cases y36<;>first|exact .inr (by simpa using hy39)|exact .inl (by simpa using hy39)) (mcT [L37] 0 rfl rfl) (A0.dropT 3 rfl)
  subst hR
  refine A9 ?_
  exact Y2 rfl ⟨hr,hD⟩ (by simp [hD]) (B4y rfl) (L':=L27) (Φ':=Φ28) (by exact .inl hy29) (mcT [L27] 0 rfl rfl) (A0.dropT 2 rfl)
 ·refine D5r (b:=false) 15 rfl (by first|exact g31|(rw [g31];rfl)) ?_
  rw [g31] at hy29;try simp only [if_true,if_false,Bool.false_eq_true] at hy29
  refine ip' 3 0 [(18,bv false)] (ie (A6n rfl (A9 ?_)))
  exact Y2 rfl ⟨hr,hD⟩ (by simp [hD]) (B4y rfl) (L':=L27) (Φ':=Φ28) (by exact .inr hy29) (mcT [L27] 0 rfl rfl) (A0.dropT 2 rfl)
def G9 (p:Pth) (out3:List (List Act)):List (List Act) :=
 (bif (decide (p.to_.col=0)) then (B4 (L8 6 1) fun (y7:List Act)=>(out3++([y7]:List (List Act)))) else (B4 (L8 6 1) fun (y2:List Act)=>(B4 (K9 2 p.to_.col) fun (y8:List Act)=>(out3++([(y2++y8)]:List (List Act))))))
def I2 (p:Pth) (out2:List (List Act)):List (List Act) :=
 (bif ((decide ((p.to_.col - p.frm.col)<0))&&(decide ((-(p.to_.col - p.frm.col))≤4))) then (B4 (L8 3 (-(p.to_.col - p.frm.col))) fun (y0:List Act)=>G9 p (out2++([y0]:List (List Act)))) else G9 p out2)
def G5 (p:Pth) (out1:List (List Act)):List (List Act) :=
 (bif (decide ((p.to_.col - p.frm.col)<0)) then (B4 (K9 3 (-(p.to_.col - p.frm.col))) fun (y4:List Act)=>I2 p (out1++([y4]:List (List Act)))) else I2 p out1)
def I3 (p:Pth) (out:List (List Act)):List (List Act) :=
 (bif (decide ((0:Int)<(p.to_.col - p.frm.col))) then (B4 (K9 2 (p.to_.col - p.frm.col)) fun (y1:List Act)=>G5 p ((out++([([{Act.zero with kind:=22,n:=(p.to_.col+1)}]:List Act)]:List (List Act)))++([y1]:List (List Act)))) else G5 p (out++([([{Act.zero with kind:=22,n:=(p.to_.col+1)}]:List Act)]:List (List Act))))
def J7 (p:Pth):List (List Act) :=
 (bif (decide ((p.to_.col - p.frm.col)=0)) then I3 p (([]:List (List Act))++([([]:List Act)]:List (List Act))) else I3 p ([]:List (List Act)))
theorem B1w (p:Pth) (h0:0≤p.frm.col∧p.frm.col≤80∧0≤p.to_.col∧p.to_.col≤80) (out:List (List Act)) (h:∀ e ∈ out,mwA e):(∀ e ∈ G9 p out,mwA e)∧(G9 p out).length=out.length+1:=by
 have hd:(L8 6 1).length≤50∧mwA (L8 6 1):=A8o rfl (by omega)
 unfold G9 B4
 cases decide (p.to_.col=0) with
 | true=>exact ⟨fun e he=>by rcases List.mem_append.1 he with he | he;exact h e he;rw [List.mem_singleton.1 he];exact hd.2,by simp⟩
 | false =>
  refine ⟨fun e he=>?_,by simp⟩
  rcases List.mem_append.1 he with he | he
  ·exact h e he
  ·rw [List.mem_singleton.1 he]
   refine ⟨?_,fun a ha=>?_⟩
   ·rw [List.length_append,A6d,List.length_replicate];show 1+1≤50;omega
   ·rcases List.mem_append.1 ha with ha | ha
    ·exact hd.2.2 a ha
    ·rw [List.mem_singleton.1 ha];exact (B3f (n:=2) (m:=p.to_.col) (by omega)).2 _ (List.mem_singleton.2 rfl)
theorem B1i (p:Pth) (h0:0≤p.frm.col∧p.frm.col≤80∧0≤p.to_.col∧p.to_.col≤80) (out:List (List Act)) (h:∀ e ∈ out,mwA e):(∀ e ∈ I2 p out,mwA e)∧(I2 p out).length≤out.length+2:=by
 unfold I2 B4
 cases hc:((decide ((p.to_.col - p.frm.col)<0))&&(decide ((-(p.to_.col - p.frm.col))≤4))) with
 | true =>
  simp only [Bool.and_eq_true,decide_eq_true_eq] at hc
  have h1:=B1w p h0 (out++[L8 3 (-(p.to_.col - p.frm.col))]) (fun e he=>by
   rcases List.mem_append.1 he with he | he
   ·exact h e he
   ·rw [List.mem_singleton.1 he];exact (A8o rfl (by omega)).2)
  exact ⟨h1.1,by have:=h1.2;rw [List.length_append] at this;show (G9 p _).length≤_;rw [this];exact Nat.le_refl _⟩
 | false=>exact ⟨(B1w p h0 out h).1,by have:=(B1w p h0 out h).2;show (G9 p _).length≤_;omega⟩
theorem C1l {out:List (List Act)} (h:∀ e ∈ out,mwA e) {x:List Act} (hx:mwA x):∀ e ∈ out++[x],mwA e:=fun e he=>by
 rcases List.mem_append.1 he with he | he
 ·exact h e he
 ·rw [List.mem_singleton.1 he];exact hx
theorem B2c (p:Pth) (h0:0≤p.frm.col∧p.frm.col≤80∧0≤p.to_.col∧p.to_.col≤80) (out:List (List Act)) (h:∀ e ∈ out,mwA e):(∀ e ∈ G5 p out,mwA e)∧(G5 p out).length≤out.length+3:=by
 unfold G5 B4
 cases hq:decide ((p.to_.col - p.frm.col)<0) with
 | true =>
  have h1:=B1i p h0 (out++[K9 3 (-(p.to_.col - p.frm.col))]) (C1l h (B3f (by have:=of_decide_eq_true hq;omega)))
  exact ⟨h1.1,by have:=h1.2;rw [List.length_append] at this;show (I2 p _).length≤_;exact this⟩
 | false=>exact ⟨(B1i p h0 out h).1,by have:=(B1i p h0 out h).2;show (I2 p _).length≤_;omega⟩
theorem B2e (p:Pth) (h0:0≤p.frm.col∧p.frm.col≤80∧0≤p.to_.col∧p.to_.col≤80) (out:List (List Act)) (h:∀ e ∈ out,mwA e):(∀ e ∈ I3 p out,mwA e)∧(I3 p out).length≤out.length+5:=by
 have hc:=C1l h (D2a (a:={Act.zero with kind:=22,n:=p.to_.col+1}) ⟨rfl,show -1000≤p.to_.col+1 by omega,show p.to_.col+1≤1000 by omega,show (-1000:Int)≤0 by omega,show (0:Int)≤1000 by omega,fun h=>absurd (show (22:Int)=20 from h) (by decide)⟩)
 unfold I3 B4
 cases hq:decide ((0:Int)<(p.to_.col - p.frm.col)) with
 | true =>
  have h1:=B2c p h0 _ (C1l hc (B3f (n:=2) (m:=p.to_.col - p.frm.col) (by have:=of_decide_eq_true hq;omega)))
  exact ⟨h1.1,by have:=h1.2;rw [List.length_append,List.length_append] at this;show (G5 p _).length≤_;exact this⟩
 | false=>exact ⟨(B2c p h0 _ hc).1,by have:=(B2c p h0 _ hc).2;rw [List.length_append] at this;show (G5 p _).length≤_;exact Nat.le_trans this (by simp only [List.length_cons,List.length_nil];omega)⟩
theorem C4x {p:Pth} {r:List (List Act)} (hr:J7 p=r) (h0:0≤p.frm.col∧p.frm.col≤80∧0≤p.to_.col∧p.to_.col≤80):(∀ e ∈ r,mwA e)∧r.length≤6:=by
 subst hr;unfold J7
 cases decide ((p.to_.col - p.frm.col)=0) with
 | true=>exact B2e p h0 ([[]]:List (List Act)) (fun e he=>by rw [List.mem_singleton.1 he];exact ⟨Nat.le_of_ble_eq_true rfl,fun a ha=>by cases ha⟩)
 | false=>exact ⟨(B2e p h0 [] (fun e he=>by cases he)).1,Nat.le_trans (B2e p h0 [] (fun e he=>by cases he)).2 (by simp)⟩
theorem B3a (p:Pth) (hb:0≤p.frm.col∧p.frm.col≤80∧0≤p.to_.col∧p.to_.col≤80) (R:List (List Act)) (hR:J7 p=R):Con Tryz.prog 106 [ag (F2 p)] [] [] ({t:VR×List Slc // VOk 1 R.length t.1∧D7 t.2 R}) (fun x=>.slice (va x.1.1.q) R.length x.1.1.k) (fun x=>((vo G4 27 x.1.1 x.1.2)++([]))) (fun x=>[I4 B0 x.1.2 R]):=by
 refine zco Tryz.func106 [(0,ag (F2 p))] fun X hX hr hD=>?_
 replace hR:=(J7.eq_1 ..).symm.trans hR
 refine sr 2 rfl (Q9 2 0 [] (fun b1=>[(1,pt b1 0)]) (fun b1=>[bx b1 (F2 p) 100]) (fun b1=>(ie (sr 8 rfl (zrl 6 2 [0,0] [(7,iv p.to_.col),(10,iv p.frm.col)] (ix rfl (U7 rfl rfl rfl rfl (by omega)) (ip' 1 0 [(3,iv (p.to_.col - p.frm.col))] (ie (sr 1 rfl (ip' 1 0 [(4,.slice none 0 0)] ?_))))))))))
 refine ie (D4f (fun (out:List (List Act)) (outr:VR) (outrs:List Slc)=>(I3 p out=R∧VOk 1 out.length outr∧D7 outrs out∧out.length≤1,[(1,pt b1 0),(3,iv (p.to_.col - p.frm.col)),(4,.slice (va outr.q) out.length outr.k)],(bx b1 (F2 p) 100::(vo G4 27 outr outrs)++([])),[I4 B0 outrs out])) ?_ ?_)
 ·refine sr 2 rfl (ip' 2 0 [(13,bv (decide ((p.to_.col - p.frm.col)=0)))] (ie ?_))
  refine zjd rfl hR ?_ ?_<;>clear hR<;>intro hR h2 h2p
  ·refine A4 4 rfl (ip' 1 3 [(14,.slice none 0 0)] (it rfl (B7 (c:=G4) (xs:=([⟨none,0,0⟩]:List Slc)) B5f rfl rfl rfl (by kernel_rfl)) fun b3=>?_))
   have hrows4:D7 ([⟨none,0,0⟩]:List Slc) ([([]:List Act)]:List (List Act)):=(D7.cons ⟨rfl,(by first|omega|(simp<;>omega)|(dsimp only;omega)|decide),(by first|omega|(simp<;>omega)|(dsimp only;omega)|decide)⟩ D7.none)
   refine D5 (q:=I4 B0 ([⟨none,0,0⟩]:List Slc) ([([]:List Act)]:List (List Act))) (A1d A5c P2) ?_
   have:([⟨none,0,0⟩]:List Slc).length=1:=rfl
   refine D5 (q:=I4 B0 [] ([]:List (List Act))) P2 ?_
   have hw7:D7 (([]:List Slc)++([⟨none,0,0⟩]:List Slc)) (([]:List (List Act))++([([]:List Act)]:List (List Act))):=D7.append D7.none hrows4
   refine it rfl (U4 (r:=VR.nil) (rs:=([]:List Slc)) (xss:=([]:List (List Act))) (pre:=[bx b1 (F2 p) 100]) (post:=[]) B9h rfl rfl rfl rfl rfl rfl rfl rfl rfl (A2 2 rfl) (A2 0 rfl) (A2 1 rfl) D7.none hrows4 VOk.nil (by first|omega|(simp<;>omega)) (by first|omega|(simp<;>omega))) fun ⟨r5,hr6⟩=>?_
   have:=VOk.le hr6
   have:=VOk.cap hr6
   have:([]:List (List Act)).length=0:=rfl
   have:([([]:List Act)]:List (List Act)).length=1:=rfl
   have:(([]:List (List Act))++([([]:List Act)]:List (List Act))).length=([]:List (List Act)).length+1:=List.length_append
   refine ip' 1 0 [(4,.slice (va r5.q) ((([]:List (List Act))++([([]:List Act)]:List (List Act))).length) r5.k)] (A6 ?_)
   exact C0f (([]:List (List Act))++([([]:List Act)]:List (List Act))) r5 (([]:List Slc)++([⟨none,0,0⟩]:List Slc)) ⟨hR,hr6,hw7,(by first|omega|(simp<;>omega))⟩ (mc [[bx b1 (F2 p) 100],vo G4 27 r5 (([]:List Slc)++([⟨none,0,0⟩]:List Slc))] [true,true] rfl (by first|rfl|(simp only [List.length_set]<;>rfl))) (A0.pick [0] rfl)
  refine A9 (A2d (M1 [vo G4 27 VR.nil ([]:List Slc),[bx b1 (F2 p) 100]] [1,0] 2 rfl (by decide) rfl [[bx b1 (F2 p) 100],vo G4 27 VR.nil ([]:List Slc)] rfl (by first|rfl|simp)) ?_)
  exact C0f ([]:List (List Act)) VR.nil ([]:List Slc) ⟨hR,VOk.nil,D7.none,(by first|omega|(simp<;>omega))⟩ (mc [[bx b1 (F2 p) 100],vo G4 27 VR.nil ([]:List Slc)] [true,true] rfl (by first|rfl|(simp only [List.length_set]<;>rfl))) (A0.con1 P2 fn0)
 intro out outr outrs
 rintro ⟨hR,hokoutr,hrowsoutrs,hj⟩
 replace hR:=(I3.eq_1 ..).symm.trans hR
 refine sr 10 rfl (zrl 4 6 [0] [(17,.slice (va outr.q) out.length outr.k),(20,iv p.to_.col)] (ix rfl (B6 rfl rfl rfl rfl (by omega)) (zrl 1 4 [] [(22,ag (B0 ({Act.zero with kind:=22,n:=(p.to_.col+1)})))] (it rfl (B7 (c:=B0) (xs:=([{Act.zero with kind:=22,n:=(p.to_.col+1)}]:List Act)) A6u rfl rfl rfl (by kernel_rfl)) fun b8=>?_))))
 have:([{Act.zero with kind:=22,n:=(p.to_.col+1)}]:List Act).length=1:=rfl
 refine it rfl (B7 (c:=G4) (xs:=([⟨some ⟨b8,0,none⟩,1,1⟩]:List Slc)) B5f rfl rfl rfl (by kernel_rfl)) fun b9=>?_
 have hrows10:D7 ([⟨some ⟨b8,0,none⟩,1,1⟩]:List Slc) ([([{Act.zero with kind:=22,n:=(p.to_.col+1)}]:List Act)]:List (List Act)):=(D7.cons ⟨rfl,(by first|omega|(simp<;>omega)|(dsimp only;omega)|decide),(by first|omega|(simp<;>omega)|(dsimp only;omega)|decide)⟩ D7.none)
 refine D5 (q:=I4 B0 ([⟨some ⟨b8,0,none⟩,1,1⟩]:List Slc) ([([{Act.zero with kind:=22,n:=(p.to_.col+1)}]:List Act)]:List (List Act))) (A1d (A2 1 rfl) P2) ?_
 have:([⟨some ⟨b8,0,none⟩,1,1⟩]:List Slc).length=1:=rfl
 have hw13:D7 (outrs++([⟨some ⟨b8,0,none⟩,1,1⟩]:List Slc)) (out++([([{Act.zero with kind:=22,n:=(p.to_.col+1)}]:List Act)]:List (List Act))):=D7.append hrowsoutrs hrows10
 refine it rfl (U4 (r:=outr) (rs:=outrs) (xss:=out) (pre:=[bx b1 (F2 p) 100]) (post:=[]) B9h rfl rfl rfl rfl rfl rfl rfl rfl rfl (A2 1 rfl) (A2 3 rfl) (A2 0 rfl) hrowsoutrs hrows10 hokoutr (by first|omega|(simp<;>omega)) (by first|omega|(simp<;>omega))) fun ⟨r11,hr12⟩=>?_
 have:=VOk.le hr12
 have:=VOk.cap hr12
 have:([([{Act.zero with kind:=22,n:=(p.to_.col+1)}]:List Act)]:List (List Act)).length=1:=rfl
 have:(out++([([{Act.zero with kind:=22,n:=(p.to_.col+1)}]:List Act)]:List (List Act))).length=out.length+1:=List.length_append
 refine ip' 1 0 [(4,.slice (va r11.q) ((out++([([{Act.zero with kind:=22,n:=(p.to_.col+1)}]:List Act)]:List (List Act))).length) r11.k)] ?_
 refine ie (D4f (fun (out1:List (List Act)) (outr1:VR) (outrs1:List Slc)=>(G5 p out1=R∧VOk 1 out1.length outr1∧D7 outrs1 out1∧out1.length≤3,[(1,pt b1 0),(3,iv (p.to_.col - p.frm.col)),(4,.slice (va outr1.q) out1.length outr1.k)],(bx b1 (F2 p) 100::(vo G4 27 outr1 outrs1)++([])),[I4 B0 (outrs++([⟨some ⟨b8,0,none⟩,1,1⟩]:List Slc)) (out++([([{Act.zero with kind:=22,n:=(p.to_.col+1)}]:List Act)]:List (List Act))),I4 B0 ([⟨some ⟨b8,0,none⟩,1,1⟩]:List Slc) ([([{Act.zero with kind:=22,n:=(p.to_.col+1)}]:List Act)]:List (List Act)),sl G4 (some ⟨b9,0,none⟩) ([⟨some ⟨b8,0,none⟩,1,1⟩]:List Slc),sl B0 (some ⟨b8,0,none⟩) ([{Act.zero with kind:=22,n:=(p.to_.col+1)}]:List Act),I4 B0 outrs out,I4 B0 outrs1 out1])) ?_ ?_)
 ·refine sr 2 rfl (ip' 2 0 [(27,bv (decide ((0:Int)<(p.to_.col - p.frm.col))))] (ie ?_))
  refine zjd rfl hR ?_ ?_<;>clear hR<;>intro hR h14 h14p
  ·refine A4 6 rfl (ip' 2 4 [(28,.slice (va r11.q) ((out++([([{Act.zero with kind:=22,n:=(p.to_.col+1)}]:List Act)]:List (List Act))).length) r11.k),(29,iv (p.to_.col - p.frm.col))] ?_)
   have hQ:=E9 hR;clear hR;obtain ⟨y1,hy1,hR⟩:=hQ
   refine zcm (A3r 2 (p.to_.col - p.frm.col) y1 hy1) fn0 fun ⟨⟨q15,k16⟩,hp17⟩=>?_
   obtain ⟨hc18,hl19⟩:=hp17
   have:y1.length=1:=by rw [← hy1];rfl
   refine it rfl (B7 (c:=G4) (xs:=([⟨q15,y1.length,k16⟩]:List Slc)) B5f rfl rfl rfl (by kernel_rfl)) fun b20=>?_
   have hrows21:D7 ([⟨q15,y1.length,k16⟩]:List Slc) ([y1]:List (List Act)):=(D7.cons ⟨rfl,(by first|omega|(simp<;>omega)|(dsimp only;omega)|decide),(by first|omega|(simp<;>omega)|(dsimp only;omega)|decide)⟩ D7.none)
   refine D5 (q:=I4 B0 ([⟨q15,y1.length,k16⟩]:List Slc) ([y1]:List (List Act))) (A1d (A2 1 rfl) P2) ?_
   have:([⟨q15,y1.length,k16⟩]:List Slc).length=1:=rfl
   have hw24:D7 ((outrs++([⟨some ⟨b8,0,none⟩,1,1⟩]:List Slc))++([⟨q15,y1.length,k16⟩]:List Slc)) ((out++([([{Act.zero with kind:=22,n:=(p.to_.col+1)}]:List Act)]:List (List Act)))++([y1]:List (List Act))):=D7.append hw13 hrows21
   refine it rfl (U4 (r:=r11) (rs:=(outrs++([⟨some ⟨b8,0,none⟩,1,1⟩]:List Slc))) (xss:=(out++([([{Act.zero with kind:=22,n:=(p.to_.col+1)}]:List Act)]:List (List Act)))) (pre:=[bx b1 (F2 p) 100]) (post:=[]) B9h rfl rfl rfl rfl rfl rfl rfl rfl rfl (A2 1 rfl) (A2 3 rfl) (A2 0 rfl) hw13 hrows21 hr12 (by first|omega|(simp<;>omega)) (by first|omega|(simp<;>omega))) fun ⟨r22,hr23⟩=>?_
   have:=VOk.le hr23
   have:=VOk.cap hr23
   have:([y1]:List (List Act)).length=1:=rfl
   have:((out++([([{Act.zero with kind:=22,n:=(p.to_.col+1)}]:List Act)]:List (List Act)))++([y1]:List (List Act))).length=(out++([([{Act.zero with kind:=22,n:=(p.to_.col+1)}]:List Act)]:List (List Act))).length+1:=List.length_append
   refine ip' 1 0 [(4,.slice (va r22.q) (((out++([([{Act.zero with kind:=22,n:=(p.to_.col+1)}]:List Act)]:List (List Act)))++([y1]:List (List Act))).length) r22.k)] (A6 ?_)
   exact C0f ((out++([([{Act.zero with kind:=22,n:=(p.to_.col+1)}]:List Act)]:List (List Act)))++([y1]:List (List Act))) r22 ((outrs++([⟨some ⟨b8,0,none⟩,1,1⟩]:List Slc))++([⟨q15,y1.length,k16⟩]:List Slc)) ⟨hR,hr23,hw24,(by first|omega|(simp<;>omega))⟩ (mc [[bx b1 (F2 p) 100],vo G4 27 r22 ((outrs++([⟨some ⟨b8,0,none⟩,1,1⟩]:List Slc))++([⟨q15,y1.length,k16⟩]:List Slc))] [true,true] rfl (by first|rfl|(simp only [List.length_set]<;>rfl))) (A0.pick [4,5,6,7,8,0] rfl)
  refine A9 ?_
  exact C0f (out++([([{Act.zero with kind:=22,n:=(p.to_.col+1)}]:List Act)]:List (List Act))) r11 (outrs++([⟨some ⟨b8,0,none⟩,1,1⟩]:List Slc)) ⟨hR,hr12,hw13,(by first|omega|(simp<;>omega))⟩ (mc [[bx b1 (F2 p) 100],vo G4 27 r11 (outrs++([⟨some ⟨b8,0,none⟩,1,1⟩]:List Slc))] [true,true] rfl (by first|rfl|(simp only [List.length_set]<;>rfl))) (A0.pick [0,1,2,3,4,0] rfl)
 intro out1 outr1 outrs1
 rintro ⟨hR,hokoutr1,hrowsoutrs1,hj⟩
 replace hR:=(G5.eq_1 ..).symm.trans hR
 refine D4f (fun (out2:List (List Act)) (outr2:VR) (outrs2:List Slc)=>(I2 p out2=R∧VOk 1 out2.length outr2∧D7 outrs2 out2∧out2.length≤4,[(1,pt b1 0),(3,iv (p.to_.col - p.frm.col)),(4,.slice (va outr2.q) out2.length outr2.k)],(bx b1 (F2 p) 100::(vo G4 27 outr2 outrs2)++([])),[I4 B0 (outrs++([⟨some ⟨b8,0,none⟩,1,1⟩]:List Slc)) (out++([([{Act.zero with kind:=22,n:=(p.to_.col+1)}]:List Act)]:List (List Act))),I4 B0 ([⟨some ⟨b8,0,none⟩,1,1⟩]:List Slc) ([([{Act.zero with kind:=22,n:=(p.to_.col+1)}]:List Act)]:List (List Act)),sl G4 (some ⟨b9,0,none⟩) ([⟨some ⟨b8,0,none⟩,1,1⟩]:List Slc),sl B0 (some ⟨b8,0,none⟩) ([{Act.zero with kind:=22,n:=(p.to_.col+1)}]:List Act),I4 B0 outrs out,I4 B0 outrs1 out1,I4 B0 outrs2 out2])) ?_ ?_
 ·refine sr 2 rfl (ip' 2 0 [(34,bv (decide ((p.to_.col - p.frm.col)<0)))] (ie ?_))
  refine zjd rfl hR ?_ ?_<;>clear hR<;>intro hR h25 h25p
  ·refine A4 7 rfl (ip' 2 5 [(35,.slice (va outr1.q) out1.length outr1.k),(36,iv (p.to_.col - p.frm.col))] (ix rfl (B4k rfl rfl rfl (by omega)) ?_))
   have hQ:=E9 hR;clear hR;obtain ⟨y4,hy4,hR⟩:=hQ
   refine zcm (A3r 3 (-(p.to_.col - p.frm.col)) y4 hy4) fn0 fun ⟨⟨q26,k27⟩,hp28⟩=>?_
   obtain ⟨hc29,hl30⟩:=hp28
   have:y4.length=1:=by rw [← hy4];rfl
   refine it rfl (B7 (c:=G4) (xs:=([⟨q26,y4.length,k27⟩]:List Slc)) B5f rfl rfl rfl (by kernel_rfl)) fun b31=>?_
   have hrows32:D7 ([⟨q26,y4.length,k27⟩]:List Slc) ([y4]:List (List Act)):=(D7.cons ⟨rfl,(by first|omega|(simp<;>omega)|(dsimp only;omega)|decide),(by first|omega|(simp<;>omega)|(dsimp only;omega)|decide)⟩ D7.none)
   refine D5 (q:=I4 B0 ([⟨q26,y4.length,k27⟩]:List Slc) ([y4]:List (List Act))) (A1d (A2 1 rfl) P2) ?_
   have:([⟨q26,y4.length,k27⟩]:List Slc).length=1:=rfl
   have hw35:D7 (outrs1++([⟨q26,y4.length,k27⟩]:List Slc)) (out1++([y4]:List (List Act))):=D7.append hrowsoutrs1 hrows32
   refine it rfl (U4 (r:=outr1) (rs:=outrs1) (xss:=out1) (pre:=[bx b1 (F2 p) 100]) (post:=[]) B9h rfl rfl rfl rfl rfl rfl rfl rfl rfl (A2 1 rfl) (A2 8 rfl) (A2 0 rfl) hrowsoutrs1 hrows32 hokoutr1 (by first|omega|(simp<;>omega)) (by first|omega|(simp<;>omega))) fun ⟨r33,hr34⟩=>?_
   have:=VOk.le hr34
   have:=VOk.cap hr34
   have:([y4]:List (List Act)).length=1:=rfl
   have:(out1++([y4]:List (List Act))).length=out1.length+1:=List.length_append
   refine ip' 1 0 [(4,.slice (va r33.q) ((out1++([y4]:List (List Act))).length) r33.k)] (A6 ?_)
   exact C0f (out1++([y4]:List (List Act))) r33 (outrs1++([⟨q26,y4.length,k27⟩]:List Slc)) ⟨hR,hr34,hw35,(by first|omega|(simp<;>omega))⟩ (mc [[bx b1 (F2 p) 100],vo G4 27 r33 (outrs1++([⟨q26,y4.length,k27⟩]:List Slc))] [true,true] rfl (by first|rfl|(simp only [List.length_set]<;>rfl))) (A0.pick [4,5,6,7,8,9,0] rfl)
  refine A9 ?_
  exact C0f out1 outr1 outrs1 ⟨hR,hokoutr1,hrowsoutrs1,(by first|omega|(simp<;>omega))⟩ (mc [[bx b1 (F2 p) 100],vo G4 27 outr1 outrs1] [true,true] rfl (by first|rfl|(simp only [List.length_set]<;>rfl))) (A0.pick [0,1,2,3,4,5,5] rfl)
 intro out2 outr2 outrs2
 rintro ⟨hR,hokoutr2,hrowsoutrs2,hj⟩
 replace hR:=(I2.eq_1 ..).symm.trans hR
 refine D4f (fun (out3:List (List Act)) (outr3:VR) (outrs3:List Slc)=>(G9 p out3=R∧VOk 1 out3.length outr3∧D7 outrs3 out3∧out3.length≤5,[(1,pt b1 0),(4,.slice (va outr3.q) out3.length outr3.k)],(bx b1 (F2 p) 100::(vo G4 27 outr3 outrs3)++([])),[I4 B0 (outrs++([⟨some ⟨b8,0,none⟩,1,1⟩]:List Slc)) (out++([([{Act.zero with kind:=22,n:=(p.to_.col+1)}]:List Act)]:List (List Act))),I4 B0 ([⟨some ⟨b8,0,none⟩,1,1⟩]:List Slc) ([([{Act.zero with kind:=22,n:=(p.to_.col+1)}]:List Act)]:List (List Act)),sl G4 (some ⟨b9,0,none⟩) ([⟨some ⟨b8,0,none⟩,1,1⟩]:List Slc),sl B0 (some ⟨b8,0,none⟩) ([{Act.zero with kind:=22,n:=(p.to_.col+1)}]:List Act),I4 B0 outrs out,I4 B0 outrs1 out1,I4 B0 outrs2 out2,I4 B0 outrs3 out3])) ?_ ?_
 ·refine sr 7 rfl (ip' 3 4 [(43,bv (decide ((p.to_.col - p.frm.col)<0)))] ?_)
  refine zid 4 0 43 47 (decide ((-(p.to_.col - p.frm.col))≤4)) (fun g36 g36p=>?_) ?_
  ·refine ip' 1 3 [(44,iv (p.to_.col - p.frm.col))] (ix rfl (B4k rfl rfl rfl (by omega)) (ip' 2 0 [(47,bv (decide ((-(p.to_.col - p.frm.col))≤4)))] ?_))
   exact A6 (X8 4 43 47 g36 A0.refl (mc [[bx b1 (F2 p) 100],vo G4 27 outr2 outrs2] [true,true] rfl (by first|rfl|(simp only [List.length_set]<;>rfl))) rfl rfl rfl rfl rfl)
  refine ie ?_
  refine zja rfl hR ?_ ?_<;>clear hR<;>intro hR h37 h37p
  ·refine A4 7 rfl (ip' 2 5 [(48,.slice (va outr2.q) out2.length outr2.k),(49,iv (p.to_.col - p.frm.col))] (ix rfl (B4k rfl rfl rfl (by omega)) ?_))
   have hQ:=E9 hR;clear hR;obtain ⟨y0,hy0,hR⟩:=hQ
   refine it rfl (R9 (L2:=(bx b1 (F2 p) 100::(vo G4 27 outr2 outrs2)++([]))) (A6c 3 (-(p.to_.col - p.frm.col)) (by omega) y0 hy0) rfl rfl rfl rfl rfl fn0 (List.Perm.refl _) (fun ⟨r38,hk39⟩=>(bx b1 (F2 p) 100::(vo B0 26 r38 y0)++((vo G4 27 outr2 outrs2)++([])))) (fun ⟨r38,hk39⟩=>M1 [vo B0 26 r38 y0,[bx b1 (F2 p) 100],vo G4 27 outr2 outrs2] [1,0,2] 3 rfl (by decide) (by first|rfl|simp) [[bx b1 (F2 p) 100],vo B0 26 r38 y0,vo G4 27 outr2 outrs2] rfl (by first|rfl|simp))) fun ⟨r38,hk39⟩=>?_
   have:=VOk.le hk39
   have:=VOk.cap hk39
   have hmqrmotiondoes:=A8o hy0 (by omega)
   have:=hmqrmotiondoes.1;try rw [hy0] at this
   have:=VOk.cap hk39
   have:=VOk.le hk39
   refine A3w [bx b1 (F2 p) 100] ((vo G4 27 outr2 outrs2)++([])) (T:=26) (c:=B0) (r:=r38) (xs:=y0) hk39 (by first|rfl|simp only [List.flatten_cons,List.flatten_nil,List.cons_append,List.append_assoc,List.nil_append,List.append_nil]) ?_
   refine it rfl (B7 (c:=G4) (xs:=([⟨va r38.q,y0.length,r38.k⟩]:List Slc)) B5f rfl rfl rfl (by kernel_rfl)) fun b40=>?_
   have hrows41:D7 ([⟨va r38.q,y0.length,r38.k⟩]:List Slc) ([y0]:List (List Act)):=(D7.cons ⟨rfl,(by first|omega|(simp<;>omega)|(dsimp only;omega)|decide),(by first|omega|(simp<;>omega)|(dsimp only;omega)|decide)⟩ D7.none)
   refine D5 (q:=I4 B0 ([⟨va r38.q,y0.length,r38.k⟩]:List Slc) ([y0]:List (List Act))) (A1d (A2 1 rfl) P2) ?_
   have:([⟨va r38.q,y0.length,r38.k⟩]:List Slc).length=1:=rfl
   have hw44:D7 (outrs2++([⟨va r38.q,y0.length,r38.k⟩]:List Slc)) (out2++([y0]:List (List Act))):=D7.append hrowsoutrs2 hrows41
   refine it rfl (U4 (r:=outr2) (rs:=outrs2) (xss:=out2) (pre:=[bx b1 (F2 p) 100]) (post:=[]) B9h rfl rfl rfl rfl rfl rfl rfl rfl rfl (A2 1 rfl) (A2 9 rfl) (A2 0 rfl) hrowsoutrs2 hrows41 hokoutr2 (by first|omega|(simp<;>omega)) (by first|omega|(simp<;>omega))) fun ⟨r42,hr43⟩=>?_
   have:=VOk.le hr43
   have:=VOk.cap hr43
   have:([y0]:List (List Act)).length=1:=rfl
   have:(out2++([y0]:List (List Act))).length=out2.length+1:=List.length_append
   refine ip' 1 0 [(4,.slice (va r42.q) ((out2++([y0]:List (List Act))).length) r42.k)] (A6 ?_)
   exact C0f (out2++([y0]:List (List Act))) r42 (outrs2++([⟨va r38.q,y0.length,r38.k⟩]:List Slc)) ⟨hR,hr43,hw44,(by first|omega|(simp<;>omega))⟩ (mc [[bx b1 (F2 p) 100],vo G4 27 r42 (outrs2++([⟨va r38.q,y0.length,r38.k⟩]:List Slc))] [true,true] rfl (by first|rfl|(simp only [List.length_set]<;>rfl))) (A0.pick [4,5,6,7,8,9,10,0] rfl)
  refine A9 ?_
  exact C0f out2 outr2 outrs2 ⟨hR,hokoutr2,hrowsoutrs2,(by first|omega|(simp<;>omega))⟩ (mc [[bx b1 (F2 p) 100],vo G4 27 outr2 outrs2] [true,true] rfl (by first|rfl|(simp only [List.length_set]<;>rfl))) (A0.pick [0,1,2,3,4,5,6,6] rfl)
 intro out3 outr3 outrs3
 rintro ⟨hR,hokoutr3,hrowsoutrs3,hj⟩
 replace hR:=(G9.eq_1 ..).symm.trans hR
 refine A7 (sr 4 rfl (zrl 4 0 [0] [(57,bv (decide (p.to_.col=0)))] ?_))
 refine ie ?_
 refine zjd rfl hR ?_ ?_<;>clear hR<;>intro hR h45 h45p
 ·refine sr 5 rfl (ip' 1 4 [(58,.slice (va outr3.q) out3.length outr3.k)] ?_)
  have hQ:=E9 hR;clear hR;obtain ⟨y7,hy7,hR⟩:=hQ
  refine it rfl (R9 (L2:=(bx b1 (F2 p) 100::(vo G4 27 outr3 outrs3)++([]))) (A6c 6 1 (by omega) y7 hy7) rfl rfl rfl rfl rfl fn0 (List.Perm.refl _) (fun ⟨r46,hk47⟩=>(bx b1 (F2 p) 100::(vo B0 26 r46 y7)++((vo G4 27 outr3 outrs3)++([])))) (fun ⟨r46,hk47⟩=>M1 [vo B0 26 r46 y7,[bx b1 (F2 p) 100],vo G4 27 outr3 outrs3] [1,0,2] 3 rfl (by decide) (by first|rfl|simp) [[bx b1 (F2 p) 100],vo B0 26 r46 y7,vo G4 27 outr3 outrs3] rfl (by first|rfl|simp))) fun ⟨r46,hk47⟩=>?_
  have:=VOk.le hk47
  have:=VOk.cap hk47
  have hmqrmotiondoes1:=A8o hy7 (by omega)
  have:=hmqrmotiondoes1.1;try rw [hy7] at this
  have:=VOk.cap hk47
  have:=VOk.le hk47
  refine A3w [bx b1 (F2 p) 100] ((vo G4 27 outr3 outrs3)++([])) (T:=26) (c:=B0) (r:=r46) (xs:=y7) hk47 (by first|rfl|simp only [List.flatten_cons,List.flatten_nil,List.cons_append,List.append_assoc,List.nil_append,List.append_nil]) ?_
  refine it rfl (B7 (c:=G4) (xs:=([⟨va r46.q,y7.length,r46.k⟩]:List Slc)) B5f rfl rfl rfl (by kernel_rfl)) fun b48=>?_
  have hrows49:D7 ([⟨va r46.q,y7.length,r46.k⟩]:List Slc) ([y7]:List (List Act)):=(D7.cons ⟨rfl,(by first|omega|(simp<;>omega)|(dsimp only;omega)|decide),(by first|omega|(simp<;>omega)|(dsimp only;omega)|decide)⟩ D7.none)
  refine D5 (q:=I4 B0 ([⟨va r46.q,y7.length,r46.k⟩]:List Slc) ([y7]:List (List Act))) (A1d (A2 1 rfl) P2) ?_
  have:([⟨va r46.q,y7.length,r46.k⟩]:List Slc).length=1:=rfl
  have hw52:D7 (outrs3++([⟨va r46.q,y7.length,r46.k⟩]:List Slc)) (out3++([y7]:List (List Act))):=D7.append hrowsoutrs3 hrows49
  refine it rfl (U4 (r:=outr3) (rs:=outrs3) (xss:=out3) (pre:=[bx b1 (F2 p) 100]) (post:=[]) B9h rfl rfl rfl rfl rfl rfl rfl rfl rfl (A2 1 rfl) (A2 10 rfl) (A2 0 rfl) hrowsoutrs3 hrows49 hokoutr3 (by first|omega|(simp<;>omega)) (by first|omega|(simp<;>omega))) fun ⟨r50,hr51⟩=>?_
  have:=VOk.le hr51
  have:=VOk.cap hr51
  have:([y7]:List (List Act)).length=1:=rfl
  have:(out3++([y7]:List (List Act))).length=out3.length+1:=List.length_append
  refine ip' 1 0 [(2,.slice (va r50.q) ((out3++([y7]:List (List Act))).length) r50.k)] ?_
  subst hR
  refine ie (B1 ?_)
  exact zer hr hD (P5 rfl (C0 rfl)) ⟨(r50,(outrs3++([⟨va r46.q,y7.length,r46.k⟩]:List Slc))),⟨hr51,hw52⟩⟩ (mc [[bx b1 (F2 p) 100],vo G4 27 r50 (outrs3++([⟨va r46.q,y7.length,r46.k⟩]:List Slc))] [false,true] rfl (by first|rfl|(simp only [List.length_set]<;>rfl))) (A0.con1 (A2 0 rfl) fn0)
 refine A9 (nx ?_)
 refine sh 10 [(10,[bx b1 (F2 p) 100]),(8,vo G4 27 outr3 outrs3)] [I4 B0 (outrs++([⟨some ⟨b8,0,none⟩,1,1⟩]:List Slc)) (out++([([{Act.zero with kind:=22,n:=(p.to_.col+1)}]:List Act)]:List (List Act))),I4 B0 ([⟨some ⟨b8,0,none⟩,1,1⟩]:List Slc) ([([{Act.zero with kind:=22,n:=(p.to_.col+1)}]:List Act)]:List (List Act)),sl G4 (some ⟨b9,0,none⟩) ([⟨some ⟨b8,0,none⟩,1,1⟩]:List Slc),sl B0 (some ⟨b8,0,none⟩) ([{Act.zero with kind:=22,n:=(p.to_.col+1)}]:List Act),I4 B0 outrs out,I4 B0 outrs1 out1,I4 B0 outrs2 out2,I4 B0 outrs3 out3] (bx b1 (F2 p) 100::(vo G4 27 outr3 outrs3)++([])) (zml 10 0) (by kernel_rfl) rfl (by kernel_rfl) (by kernel_rfl) (by kernel_rfl) (mc [[bx b1 (F2 p) 100],vo G4 27 outr3 outrs3] [true,true] rfl (by first|rfl|(simp only [List.length_set]<;>rfl))) A0.refl ?_
 refine zhp [0,2,3] 7 (zml 10 13) [(62,.slice (va outr3.q) out3.length outr3.k),(65,pt b1 4)] ?_
 refine zhl 4 [bx b1 (F2 p) 100] (zml 10 29) rfl (B3 (v:=iv p.to_.col) ty3 rfl rfl 0 rfl rfl) ?_
 have hQ:=E9 hR;clear hR;obtain ⟨y2,hy2,hR⟩:=hQ
 refine zho 1 (bx b1 (F2 p) 100::(vo G4 27 outr3 outrs3)++([])) (zml 10 31) rfl (R9 (L2:=(bx b1 (F2 p) 100::(vo G4 27 outr3 outrs3)++([]))) (A6c 6 1 (by omega) y2 hy2) rfl rfl rfl rfl rfl fn0 (List.Perm.refl _) (fun ⟨r53,hk54⟩=>(bx b1 (F2 p) 100::(vo B0 26 r53 y2)++((vo G4 27 outr3 outrs3)++([])))) (fun ⟨r53,hk54⟩=>M1 [vo B0 26 r53 y2,[bx b1 (F2 p) 100],vo G4 27 outr3 outrs3] [1,0,2] 3 rfl (by decide) (by first|rfl|simp) [[bx b1 (F2 p) 100],vo B0 26 r53 y2,vo G4 27 outr3 outrs3] rfl (by first|rfl|simp))) (fun ⟨r53,hk54⟩=>(mc [[bx b1 (F2 p) 100],vo B0 26 r53 y2,vo G4 27 outr3 outrs3] [true,false,true] rfl (by first|rfl|(simp only [List.length_set]<;>rfl)))) (fun ⟨r53,hk54⟩=>A0.refl) fun ⟨r53,hk54⟩=>?_
 have:=VOk.le hk54
 have:=VOk.cap hk54
 have hmqrmotiondoes2:=A8o hy2 (by omega)
 have:=hmqrmotiondoes2.1;try rw [hy2] at this
 have hQ:=E9 hR;clear hR;obtain ⟨y8,hy8,hR⟩:=hQ
 refine zho 5 (bx b1 (F2 p) 100::(vo G4 27 outr3 outrs3)++([])) (zml 10 63) rfl (C1 (L2:=(bx b1 (F2 p) 100::(vo B0 26 r53 y2)++((vo G4 27 outr3 outrs3)++([])))) (A3r 2 p.to_.col y8 hy8) rfl rfl rfl rfl rfl fn0 (List.Perm.refl _) (fun ⟨⟨q55,k56⟩,hp57⟩=>(bx b1 (F2 p) 100::(vo B0 26 r53 y2)++((vo G4 27 outr3 outrs3)++([])))) (fun _=>by first|rfl|simp)) (fun ⟨⟨q55,k56⟩,hp57⟩=>(mc [[bx b1 (F2 p) 100],vo B0 26 r53 y2,vo G4 27 outr3 outrs3] [true,false,true] rfl (by first|rfl|(simp only [List.length_set]<;>rfl)))) (fun ⟨⟨q55,k56⟩,hp57⟩=>(A0.pick [1,2,3,4,5,6,7,8] rfl)) fun ⟨⟨q55,k56⟩,hp57⟩=>?_
 obtain ⟨hc58,hl59⟩:=hp57
 have:y8.length=1:=by rw [← hy8];rfl
 refine zho 6 (bx b1 (F2 p) 100::(vo G4 27 outr3 outrs3)++([])) (zml 10 127) rfl (C1j (f:=B0) (r:=r53) (xs:=y2) (ys:=y8) (pre:=[bx b1 (F2 p) 100]) (post:=((vo G4 27 outr3 outrs3)++([]))) D5x (fun _=>rfl) (fun _=>rfl) rfl rfl rfl rfl rfl rfl rfl rfl (A2 0 rfl) hk54 (by first|omega|(simp<;>omega)) (by first|omega|(simp<;>omega))) (fun ⟨r60,hr61⟩=>(mc [[bx b1 (F2 p) 100],vo B0 26 r60 (y2++y8),vo G4 27 outr3 outrs3] [true,false,true] rfl (by first|rfl|(simp only [List.length_set]<;>rfl)))) (fun ⟨r60,hr61⟩=>(A0.pick [1,2,3,4,5,6,7,8] rfl)) fun ⟨r60,hr61⟩=>?_
 have:=@List.length_append _ y2 y8
 have:=VOk.le hr61
 have:=VOk.cap hr61
 have:=VOk.cap hr61
 have:=VOk.le hr61
 refine D8c [bx b1 (F2 p) 100] ((vo G4 27 outr3 outrs3)++([])) (T:=26) (c:=B0) (r:=r60) (xs:=(y2++y8)) hr61 (by first|rfl|simp only [List.flatten_cons,List.flatten_nil,List.cons_append,List.append_assoc,List.nil_append,List.append_nil]) (bx b1 (F2 p) 100::(vo G4 27 outr3 outrs3)++([])) rfl (mc [[bx b1 (F2 p) 100],vo G4 27 outr3 outrs3] [true,true] rfl (by first|rfl|(simp only [List.length_set]<;>rfl))) ?_
 refine zho 7 (bx b1 (F2 p) 100::(vo G4 27 outr3 outrs3)++([])) (zml 10 255) rfl (B7 (c:=G4) (xs:=([⟨va r60.q,(y2++y8).length,r60.k⟩]:List Slc)) B5f rfl rfl rfl (by kernel_rfl)) (fun b62=>(mc [[bx b1 (F2 p) 100],vo G4 27 outr3 outrs3] [true,true] rfl (by first|rfl|(simp only [List.length_set]<;>rfl)))) (fun b62=>(A0.pick [3,4,5,6,7,8,9,10] rfl)) fun b62=>?_
 have hrows63:D7 ([⟨va r60.q,(y2++y8).length,r60.k⟩]:List Slc) ([(y2++y8)]:List (List Act)):=(D7.cons ⟨rfl,(by first|omega|(simp<;>omega)|(dsimp only;omega)|decide),(by first|omega|(simp<;>omega)|(dsimp only;omega)|decide)⟩ D7.none)
 refine D5d (q:=I4 B0 ([⟨va r60.q,(y2++y8).length,r60.k⟩]:List Slc) ([(y2++y8)]:List (List Act))) (A1d (A2 1 rfl) P2) ?_
 have:([⟨va r60.q,(y2++y8).length,r60.k⟩]:List Slc).length=1:=rfl
 have hw66:D7 (outrs3++([⟨va r60.q,(y2++y8).length,r60.k⟩]:List Slc)) (out3++([(y2++y8)]:List (List Act))):=D7.append hrowsoutrs3 hrows63
 refine zho 8 [bx b1 (F2 p) 100] (zml 10 511) rfl (U4 (r:=outr3) (rs:=outrs3) (xss:=out3) (pre:=[bx b1 (F2 p) 100]) (post:=[]) B9h rfl rfl rfl rfl rfl rfl rfl rfl rfl (A2 1 rfl) (A2 11 rfl) (A2 0 rfl) hrowsoutrs3 hrows63 hokoutr3 (by first|omega|(simp<;>omega)) (by first|omega|(simp<;>omega))) (fun ⟨r64,hr65⟩=>(mc [[bx b1 (F2 p) 100],vo G4 27 r64 (outrs3++([⟨va r60.q,(y2++y8).length,r60.k⟩]:List Slc))] [true,false] rfl (by first|rfl|(simp only [List.length_set]<;>rfl)))) (fun ⟨r64,hr65⟩=>(A0.pick [5,6,7,8,9,10,11,12] rfl)) fun ⟨r64,hr65⟩=>?_
 have:=VOk.le hr65
 have:=VOk.cap hr65
 have:([(y2++y8)]:List (List Act)).length=1:=rfl
 have:(out3++([(y2++y8)]:List (List Act))).length=out3.length+1:=List.length_append
 refine zhp [9] 0 (zml 10 1023) [(2,.slice (va r64.q) ((out3++([(y2++y8)]:List (List Act))).length) r64.k)] ?_
 refine A7m (by kernel_rfl) ?_
 subst hR
 refine B1 ?_
 exact zer hr hD (P5 rfl (C0 rfl)) ⟨(r64,(outrs3++([⟨va r60.q,(y2++y8).length,r60.k⟩]:List Slc))),⟨hr65,hw66⟩⟩ (mc [[bx b1 (F2 p) 100],vo G4 27 r64 (outrs3++([⟨va r60.q,(y2++y8).length,r60.k⟩]:List Slc))] [false,true] rfl (by first|rfl|(simp only [List.length_set]<;>rfl))) (A0.con1 (A2 0 rfl) fn0)
def F5 (c0:Pth) (el:List Act) (ag_motion_path_ways_1_r0:List (List Act)):List (List Act)→Nat→List (List Act)
 | [],t16=>ag_motion_path_ways_1_r0
 | hd_l2::tl_l2,t16=>(bif ((decide (((el++hd_l2).length:Int)=0))&&c0.frm.wrap) then F5 c0 el ag_motion_path_ways_1_r0 tl_l2 (t16+1) else ((el++hd_l2)::F5 c0 el ag_motion_path_ways_1_r0 tl_l2 (t16+1)))
def C4 (c0:Pth):List (List Act)→List (List Act)
 | []=>(([{Act.zero with kind:=19,n:=(c0.to_.row+1),m:=(c0.to_.col+1)}]:List Act)::[])
 | el::rest=>(B4 (J7 c0) fun (y5:List (List Act))=>F5 c0 el (C4 c0 rest) y5 0)
def C2 (c0:Pth):List (List Act) :=
 C4 c0 (F6 (M8 c0))
theorem C2c (c0:Pth) (el:List Act) (hel:mwA el) (ag:List (List Act)) (hag:∀ e ∈ ag,B1l e):∀ (l:List (List Act)) (h14:∀ e ∈ l,mwA e) (t16:Nat),(∀ e ∈ F5 c0 el ag l t16,B1l e)∧(F5 c0 el ag l t16).length≤l.length+ag.length
 | [],_,t16=>⟨hag,by rw [F5];simp⟩
 | x::l,h14,t16=>by
  have h1:=C2c c0 el hel ag hag l (fun e he=>h14 e (List.mem_cons_of_mem _ he)) (t16+1)
  rw [F5]
  cases ((decide (((el++x).length:Int)=0))&&c0.frm.wrap) with
  | true=>exact ⟨h1.1,by have:=h1.2;simp only [cond_true,List.length_cons];omega⟩
  | false =>
   refine ⟨fun e he=>?_,by have:=h1.2;simp only [cond_false,List.length_cons];omega⟩
   rcases List.mem_cons.1 he with he | he
   ·rw [he]
    have h2:mwA x:=h14 x (List.mem_cons_self ..)
    exact ⟨by rw [List.length_append];have:=hel.1;have:=h2.1;omega,fun a ha=>by rcases List.mem_append.1 ha with ha | ha;exact hel.2 a ha;exact h2.2 a ha⟩
   ·exact h1.1 e he
theorem C2f (c0:Pth) (h0:(0≤c0.frm.row∧c0.frm.row≤40∧0≤c0.to_.row∧c0.to_.row≤40)∧(0≤c0.frm.col∧c0.frm.col≤80∧0≤c0.to_.col∧c0.to_.col≤80)):∀ (l:List (List Act)),(∀ e ∈ l,mwA e)→(∀ e ∈ C4 c0 l,B1l e)∧(C4 c0 l).length≤6 * l.length+1
 | [],_=>⟨fun e he=>by
   rw [C4] at he
   rw [List.mem_singleton.1 he];exact ⟨Nat.le_of_ble_eq_true rfl,fun a ha=>by rw [List.mem_singleton.1 ha];exact ⟨rfl,show -1000≤c0.to_.row+1 by omega,show c0.to_.row+1≤1000 by omega,show -1000≤c0.to_.col+1 by omega,show c0.to_.col+1≤1000 by omega,fun h=>absurd (show (19:Int)=20 from h) (by decide)⟩⟩,by rw [C4];exact Nat.le_refl _⟩
 | el::rest,h=>by
  have h1:=C2f c0 h0 rest (fun e he=>h e (List.mem_cons_of_mem _ he))
  have h2:=C4x (p:=c0) rfl h0.2
  have h3:=C2c c0 el (h el (List.mem_cons_self ..)) _ h1.1 (J7 c0) h2.1 0
  rw [C4];unfold B4
  exact ⟨h3.1,by have:=h3.2;have:=h1.2;have:=h2.2;simp only [List.length_cons];omega⟩
theorem A9s {c0:Pth} (hb:(0≤c0.frm.row∧c0.frm.row≤40∧0≤c0.to_.row∧c0.to_.row≤40)∧(0≤c0.frm.col∧c0.frm.col≤80∧0≤c0.to_.col∧c0.to_.col≤80)):(∀ e ∈ C2 c0,B1l e)∧(C2 c0).length≤13:=by
 have h:=C2f c0 hb (F6 c0) (C8a c0 hb.1)
 have:=D4t c0
 exact ⟨h.1,by have:=h.2;show (C4 c0 (F6 c0)).length≤13;omega⟩
theorem A6t (c0:Pth) (c0p:Addr) (hb:(0≤c0.frm.row∧c0.frm.row≤40∧0≤c0.to_.row∧c0.to_.row≤40)∧(0≤c0.frm.col∧c0.frm.col≤80∧0≤c0.to_.col∧c0.to_.col≤80)) (R:List (List Act)) (hR:C2 c0=R):B3e Tryz.prog 105 [pa c0p] [] [at_ c0p (F2 c0)] B0 R:=by
 refine C1h [] (n:=53) Tryz.func105 rfl (by kernel_rfl) rfl rfl (fun l=>[(0,.func (.yield l) #[] #[]),(1,pa c0p)]) (fun l=>⟨rfl,rfl,trivial⟩) fun X l I Ix L Φ hX hr hD hI0 hY=>?_
 replace hR:=(C2.eq_1 ..).symm.trans hR
 refine sr 1 rfl (Q9 1 0 [] (fun b1=>[(2,pt b1 0)]) (fun b1=>(bx b1 [.func (.yield l) #[] #[]] 168::L++([]))) (fun b1=>(ie (sr 4 rfl (ix rfl (R5 (us:=F2 c0) D9p rfl rfl (A2 0 rfl) rfl) ?_)))))
 refine Q9 3 0 [0] (fun b2=>[(3,pt b2 0)]) (fun b2=>(bx b2 [.func (.func 106) #[ag (F2 c0)] #[]] 169::bx b1 [.func (.yield l) #[] #[]] 168::L++([]))) (fun b2=>?_)
 refine ie (A7 (sr 2 rfl (ix rfl (R5 (us:=F2 c0) D9p rfl rfl (A2 0 rfl) rfl) ?_)))
 refine zcm (B6e c0 _ rfl) fn0 fun b3=>?_
 refine ie (B2 (C8c [(1,pa c0p),(2,pt b1 0),(3,pt b2 0),(11,.func (.func 152) #[] #[pa b3])] ⟨rfl,rfl,rfl,rfl,trivial⟩ ?_))
 refine B8u (cc:=B0) (xs:=(F6 (M8 c0))) (σ:=List (List Act)×Fen.Own×List Pers) hr rfl (B3q (M8 c0) b3 (by first|exact hb.1|(dsimp only;omega)) _ rfl) (A0.cons (A2 0 rfl) fn0) rfl rfl (fun rem x=>C4 c0 rem=x.1∧I x.1 x.2.1 x.2.2∧(∀ e ∈ rem,mwA e)) (fun c x=>c=.ret∧Ix x.2.1 x.2.2) (fun x=>(bx b2 [.func (.func 106) #[ag (F2 c0)] #[]] 169::bx b1 [.func (.yield l) #[] #[]] 168::x.2.1++([]))) (fun x=>(at_ b3 (F2 (M8 c0))::at_ c0p (F2 c0)::x.2.2)) (R,L,Φ) (by exact ⟨hR,hI0,(by exact C8a c0 hb.1)⟩) (mc [[bx b2 [.func (.func 106) #[ag (F2 c0)] #[]] 169],[bx b1 [.func (.yield l) #[] #[]] 168],L] [true,true,true] rfl (by first|rfl|(simp only [List.length_set]<;>rfl))) (A0.con1 (A2 0 rfl) (A0.con1 (A2 1 rfl) (A0.dropT 2 rfl))) ?_ ?_ ?_
 ·rintro el rest ⟨R_,Lt,Ft⟩ qel kel hc5 hl6 hI Y Y' K' hY' hK
  try dsimp only at hI
  obtain ⟨hR,hILt,hel⟩:=hI
  replace hR:=(C4.eq_2 ..).symm.trans hR
  refine A4 1 rfl (ip' 1 0 [(4,.slice qel el.length kel)] (A6 (hK _ _ _ ?_)))
  refine B2 (sr 4 rfl (zrl 1 3 [0] [(13,.func (.func 106) #[ag (F2 c0)] #[])] ?_))
  have hQ:=E9 hR;clear hR;obtain ⟨y5,hy5,hR⟩:=hQ
  refine it rfl (R9 (L2:=(bx b2 [.func (.func 106) #[ag (F2 c0)] #[]] 169::bx b1 [.func (.yield l) #[] #[]] 168::Lt++([]))) (B3a c0 (by first|exact hb.2|(dsimp only;omega)) y5 hy5) rfl rfl rfl rfl rfl fn0 (List.Perm.refl _) (fun ⟨⟨r7,rs8⟩,hp11⟩=>(bx b2 [.func (.func 106) #[ag (F2 c0)] #[]] 169::bx b1 [.func (.yield l) #[] #[]] 168::Lt++((vo G4 27 r7 rs8)++([])))) (fun ⟨⟨r7,rs8⟩,hp11⟩=>M1 [vo G4 27 r7 rs8,[bx b2 [.func (.func 106) #[ag (F2 c0)] #[]] 169],[bx b1 [.func (.yield l) #[] #[]] 168],Lt] [1,2,3,0] 4 rfl (by decide) (by first|rfl|simp) [[bx b2 [.func (.func 106) #[ag (F2 c0)] #[]] 169],[bx b1 [.func (.yield l) #[] #[]] 168],Lt,vo G4 27 r7 rs8] rfl (by first|rfl|simp))) fun ⟨⟨r7,rs8⟩,hp11⟩=>?_
  try dsimp only at hp11
  obtain ⟨hk9,hw10⟩:=hp11
  have:=VOk.le hk9
  have:=VOk.cap hk9
  have:=hw10.1
  have hac:=C4x hy5 (by first|exact hb.2|(dsimp only;omega))
  have:=hac.2;try rw [hy5] at this
  refine A3w (bx b2 [.func (.func 106) #[ag (F2 c0)] #[]] 169::bx b1 [.func (.yield l) #[] #[]] 168::Lt++([])) [] (T:=27) (c:=G4) (r:=r7) (xs:=rs8) (VOk.cast hk9 (by rw [hw10.1])) (by first|rfl|simp only [List.flatten_cons,List.flatten_nil,List.cons_append,List.append_assoc,List.nil_append,List.append_nil]) ?_
  refine D6g (L':=(bx b2 [.func (.func 106) #[ag (F2 c0)] #[]] 169::bx b1 [.func (.yield l) #[] #[]] 168::Lt++([]))) (by first|rfl|simp) ?_
  refine ip' 2 0 [(15,iv (y5.length:Int)),(16,iv 0)] (ie (B2 ?_))
  refine B8v (fun (t16:Nat) (R_1:List (List Act)) (Lt1:Fen.Own) (Ft1:List Pers)=>(t16≤y5.length∧F5 c0 el (C4 c0 rest) (y5.drop t16) t16=R_1∧I R_1 Lt1 Ft1,[(1,pa c0p),(2,pt b1 0),(3,pt b2 0),(4,.slice qel el.length kel),(11,.func (.func 152) #[] #[pa b3]),(14,.slice (va r7.q) y5.length r7.k),(15,iv (y5.length:Int)),(16,iv (t16:Int))],(bx b2 [.func (.func 106) #[ag (F2 c0)] #[]] 169::bx b1 [.func (.yield l) #[] #[]] 168::Lt1++([])),(sl G4 (va r7.q) rs8::I4 B0 rs8 y5::sl B0 qel el::at_ b3 (F2 (M8 c0))::at_ c0p (F2 c0)::Ft1),y5.length - t16)) 0 R_ Lt Ft ⟨(by omega),hR,hILt⟩ (mc [[bx b2 [.func (.func 106) #[ag (F2 c0)] #[]] 169],[bx b1 [.func (.yield l) #[] #[]] 168],Lt] [true,true,true] rfl (by first|rfl|(simp only [List.length_set]<;>rfl))) (A0.con1 (A2 0 rfl) (A0.con1 (A2 1 rfl) (A0.con1 (A2 2 rfl) (A0.con1 (A2 3 rfl) (A0.con1 (A2 4 rfl) (A0.dropT 5 rfl)))))) ?_
  rintro t16 R_1 Lt1 Ft1 ⟨hm12,hR,hILt1⟩
  have hele:=(hel el (List.mem_cons_self ..)).1
  have hrow:=D4w hac.1 t16
  refine sr 1 rfl (ip' 1 0 [(17,bv (decide ((t16:Int)<(y5.length:Int))))] ?_)
  refine ie (A7 (A0w rfl (fun h13=>?_) (fun h13=>?_)))
  ·have h13p:(t16:Int)<(y5.length:Int):=by simpa using h13
   rw [A4w [] (show t16<y5.length by omega)] at hR;replace hR:=(F5.eq_2 ..).symm.trans hR
   refine A9 (nx (A7 (B2 (sr 3 rfl (S6 0 rfl (by omega) fun a14 hq15=>(D5 (B1e (k:=t16) (d:=(⟨none,0,0⟩:Slc)) hw10 1 rfl (by have:=hw10.1;omega)) ?_))))))
   have:=B0x hw10 (k:=t16) (d:=(⟨none,0,0⟩:Slc)) (by have:=hw10.1;omega)
   refine ix rfl (O2 B5f rfl rfl hq15 rfl t16 rfl (by omega)) (ix rfl (J3 (C9 (v:=.slice ((rs8.getD t16 (⟨none,0,0⟩:Slc)).q) ((rs8.getD t16 (⟨none,0,0⟩:Slc)).n) ((rs8.getD t16 (⟨none,0,0⟩:Slc)).k)) (us:=[.slice ((rs8.getD t16 (⟨none,0,0⟩:Slc)).q) ((rs8.getD t16 (⟨none,0,0⟩:Slc)).n) ((rs8.getD t16 (⟨none,0,0⟩:Slc)).k)]) E2z rfl rfl (R7 (c:=G4) (sz:=1) hq15 (fun _=>rfl) 1 rfl (gd (⟨none,0,0⟩:Slc) (by have:=hw10.1;omega))) rfl) (B0s hw10 (by have:=hw10.1;omega))) (ip' 1 0 [(6,.slice ((rs8.getD t16 (⟨none,0,0⟩:Slc)).q) ((y5.getD t16 []).length) ((rs8.getD t16 (⟨none,0,0⟩:Slc)).k))] (ie (sr 9 rfl (ip' 5 4 [(20,.slice qel el.length kel),(22,iv (el.length:Int)),(24,iv (el.length:Int))] (ix rfl (C0x (n':=el.length) A6u rfl rfl el.length el.length (A3b rfl rfl) (A3b rfl rfl) (by omega) (by omega) (by first|rfl|omega) rfl) (ip' 1 2 [(26,.slice ((rs8.getD t16 (⟨none,0,0⟩:Slc)).q) ((y5.getD t16 []).length) ((rs8.getD t16 (⟨none,0,0⟩:Slc)).k))] (it rfl (C1d (f:=B0) (xs:=el) (ys:=(y5.getD t16 [])) D5x (fun _=>rfl) (fun _=>rfl) rfl rfl rfl rfl rfl rfl (by omega) (by omega) (by rfl) (A2 3 rfl) (A2 0 rfl) (by first|omega|(simp<;>omega)) (by first|omega|(simp<;>omega))) fun ⟨⟨q16,k17⟩,hq18⟩=>?_))))))))
   have:=@List.length_append _ el (y5.getD t16 [])
   refine ip' 1 0 [(7,.slice q16 ((el++(y5.getD t16 [])).length) k17)] (ie (A7 (sr 8 rfl (ip' 4 4 [(31,bv (decide (((el++(y5.getD t16 [])).length:Int)=0)))] ?_))))
   refine zid 4 0 31 35 c0.frm.wrap (fun g19 g19p=>?_) ?_
   ·refine ip' 2 2 [(33,pa (c0p.add 2))] (ix rfl (C9 (v:=bv c0.frm.wrap) (us:=[bv c0.frm.wrap]) ty4 rfl rfl (A3c (S7 (A2 6 rfl) (ws:=O0 c0.frm) 3 rfl) (ws:=[bv c0.frm.wrap]) 2 1 rfl) rfl) (ip' 1 0 [(35,bv c0.frm.wrap)] ?_))
    exact A6 (X8 4 31 35 g19 A0.refl (mc [[bx b2 [.func (.func 106) #[ag (F2 c0)] #[]] 169],[bx b1 [.func (.yield l) #[] #[]] 168],Lt1] [true,true,true] rfl (by first|rfl|(simp only [List.length_set]<;>rfl))) rfl rfl rfl rfl rfl)
   refine ie ?_
   refine zjb rfl hR ?_ ?_<;>clear hR<;>intro hR h20
   ·have h20p:=h20;try simp at h20p
    refine J5 (nx (A4 2 rfl (ix rfl (B6 rfl rfl rfl rfl (by omega)) ?_)))
    refine ip' 1 0 [(16,iv ((t16:Int)+1))] (A6 ?_)
    exact B5b (z1:=t16) (z2:=R_1) (z3:=Lt1) (z4:=Ft1) (t16+1) R_1 Lt1 Ft1 ⟨(by omega),hR,hILt1⟩ (by (try dsimp only);omega) (mc [[bx b2 [.func (.func 106) #[ag (F2 c0)] #[]] 169],[bx b1 [.func (.yield l) #[] #[]] 168],Lt1] [true,true,true] rfl (by first|rfl|(simp only [List.length_set]<;>rfl))) (A0.con1 (A2 2 rfl) (A0.con1 (A2 3 rfl) (A0.con1 (A2 4 rfl) (A0.con1 (A2 5 rfl) (A0.con1 (A2 6 rfl) (A0.dropT 7 rfl))))))
   have h20p:=h20;try simp at h20p
   refine A9 (nx (sr 4 rfl (zrl 2 2 [1] [(36,.func (.yield l) #[] #[]),(37,.slice q16 ((el++(y5.getD t16 [])).length) k17)] ?_)))
   have hq26:=B6x hR;clear hR;obtain ⟨R21,hR,hq26⟩:=hq26;rw [hq26] at hILt1
   refine it rfl (A4i (L2:=[bx b2 [.func (.func 106) #[ag (F2 c0)] #[]] 169,bx b1 [.func (.yield l) #[] #[]] 168]) (hY (el++(y5.getD t16 [])) R21 _ _ q16 k17 (by first|omega|(simp<;>omega)|(dsimp only;omega)|decide) (by first|omega|(simp<;>omega)|(dsimp only;omega)|decide) hILt1) rfl rfl rfl rfl (A0.con1 (A2 0 rfl) (A0.dropT 7 rfl)) (M1 [[bx b2 [.func (.func 106) #[ag (F2 c0)] #[]] 169],[bx b1 [.func (.yield l) #[] #[]] 168],Lt1] [2,0,1] 3 rfl (by decide) rfl [Lt1,[bx b2 [.func (.func 106) #[ag (F2 c0)] #[]] 169],[bx b1 [.func (.yield l) #[] #[]] 168]] rfl (by simp only [List.flatten_cons,List.flatten_nil,List.append_nil,List.cons_append,List.nil_append,List.append_assoc]))) fun ⟨⟨y22,L23,Φ24⟩,hy25⟩=>?_
   refine A7o (A0.yield [sl B0 q16 (el++(y5.getD t16 [])),sl B0 ((rs8.getD t16 (⟨none,0,0⟩:Slc)).q) (y5.getD t16 []),sl G4 (va r7.q) rs8,I4 B0 rs8 y5,sl B0 qel el,at_ b3 (F2 (M8 c0)),at_ c0p (F2 c0)]) ?_
   refine ip' 1 0 [(39,bv (!y22))] ?_
   refine ie (A0w rfl (fun h27=>?_) (fun h27=>?_))
   ·have h27b:y22=false:=by simpa using h27
    rw [h27b] at hy25;try simp only [if_true,if_false,Bool.false_eq_true] at hy25
    refine B1 (A2d (M1 [L23,[bx b2 [.func (.func 106) #[ag (F2 c0)] #[]] 169],[bx b1 [.func (.yield l) #[] #[]] 168]] [1,2,0] 3 rfl (by decide) rfl [[bx b2 [.func (.func 106) #[ag (F2 c0)] #[]] 169],[bx b1 [.func (.yield l) #[] #[]] 168],L23] rfl (by first|rfl|simp)) ?_)
    refine E2r (I:=fun rem x=>C4 c0 rem=x.1∧I x.1 x.2.1 x.2.2∧(∀ e ∈ rem,mwA e)) (Jx:=fun c x=>c=.ret∧Ix x.2.1 x.2.2) (Lk:=fun x=>(bx b2 [.func (.func 106) #[ag (F2 c0)] #[]] 169::bx b1 [.func (.yield l) #[] #[]] 168::x.2.1++([]))) (Φk:=fun x=>(at_ b3 (F2 (M8 c0))::at_ c0p (F2 c0)::x.2.2)) (rest:=rest) (R21,L23,Φ24) (by exact ⟨rfl,hy25⟩) (mc [[bx b2 [.func (.func 106) #[ag (F2 c0)] #[]] 169],[bx b1 [.func (.yield l) #[] #[]] 168],L23] [true,true,true] rfl (by first|rfl|(simp only [List.length_set]<;>rfl))) ?_
    exact (A0.con1 (A2 5 rfl) (A0.con1 (A2 6 rfl) (A0.dropT 7 rfl)))
   ·have h27b:y22=true:=by simpa using h27
    rw [h27b] at hy25;try simp only [if_true,if_false,Bool.false_eq_true] at hy25
    refine A9 (nx (A4 2 rfl (ix rfl (B6 rfl rfl rfl rfl (by omega)) (ip' 1 0 [(16,iv ((t16:Int)+1))] (A6 (A2d (M1 [L23,[bx b2 [.func (.func 106) #[ag (F2 c0)] #[]] 169],[bx b1 [.func (.yield l) #[] #[]] 168]] [1,2,0] 3 rfl (by decide) rfl [[bx b2 [.func (.func 106) #[ag (F2 c0)] #[]] 169],[bx b1 [.func (.yield l) #[] #[]] 168],L23] rfl (by first|rfl|simp)) ?_))))))
    exact B5b (z1:=t16) (z2:=R_1) (z3:=Lt1) (z4:=Ft1) (t16+1) R21 L23 Φ24 ⟨(by omega),hR,hy25⟩ (by (try dsimp only);omega) (mc [[bx b2 [.func (.func 106) #[ag (F2 c0)] #[]] 169],[bx b1 [.func (.yield l) #[] #[]] 168],L23] [true,true,true] rfl (by first|rfl|(simp only [List.length_set]<;>rfl))) (A0.con1 (A2 2 rfl) (A0.con1 (A2 3 rfl) (A0.con1 (A2 4 rfl) (A0.con1 (A2 5 rfl) (A0.con1 (A2 6 rfl) (A0.dropT 7 rfl))))))
  have h13p:¬ ((t16:Int)<(y5.length:Int)):=by simpa using h13
  rw [A4t h13p] at hR;replace hR:=(F5.eq_1 ..).symm.trans hR
  refine J5 ?_
  refine A8a (I:=fun rem x=>C4 c0 rem=x.1∧I x.1 x.2.1 x.2.2∧(∀ e ∈ rem,mwA e)) (Jx:=fun c x=>c=.ret∧Ix x.2.1 x.2.2) (Lk:=fun x=>(bx b2 [.func (.func 106) #[ag (F2 c0)] #[]] 169::bx b1 [.func (.yield l) #[] #[]] 168::x.2.1++([]))) (Φk:=fun x=>(at_ b3 (F2 (M8 c0))::at_ c0p (F2 c0)::x.2.2)) (rest:=rest) (R_1,Lt1,Ft1) (by exact ⟨hR,hILt1,(by exact fun e he=>hel e (List.mem_cons_of_mem _ he))⟩) (mc [[bx b2 [.func (.func 106) #[ag (F2 c0)] #[]] 169],[bx b1 [.func (.yield l) #[] #[]] 168],Lt1] [true,true,true] rfl (by first|rfl|(simp only [List.length_set]<;>rfl))) ?_
  exact (A0.con1 (A2 3 rfl) (A0.con1 (A2 4 rfl) (A0.dropT 5 rfl)))
 ·rintro d28 ⟨R_,Lt,Ft⟩ hd28 hI
  try dsimp only at hI
  obtain ⟨hR,hILt,hel⟩:=hI
  replace hR:=(C4.eq_1 ..).symm.trans hR
  refine nx (A4 12 rfl (zrl 3 9 [1] [(41,.func (.yield l) #[] #[]),(43,pa (c0p.add 3))] (ix rfl (C9 (v:=iv c0.to_.row) (us:=[iv c0.to_.row]) ty3 rfl rfl (S7 (A3c (A2 1 rfl) (ws:=P3 c0.to_) 3 2 rfl) (ws:=[iv c0.to_.row]) 1 rfl) rfl) (ix rfl (B6 rfl rfl rfl rfl (by omega)) (ip' 2 5 [(47,pa ((c0p.add 3).add 1))] (ix rfl (C9 (v:=iv c0.to_.col) (us:=[iv c0.to_.col]) ty3 rfl rfl (A3c (A3c (A2 1 rfl) (ws:=P3 c0.to_) 3 2 rfl) (ws:=[iv c0.to_.col]) 1 1 rfl) rfl) (ix rfl (B6 rfl rfl rfl rfl (by omega)) (zrl 1 2 [] [(50,ag (B0 ({Act.zero with kind:=19,n:=(c0.to_.row+1),m:=(c0.to_.col+1)})))] ?_))))))))
  refine it rfl (B7 (c:=B0) (xs:=([{Act.zero with kind:=19,n:=(c0.to_.row+1),m:=(c0.to_.col+1)}]:List Act)) A6u rfl rfl rfl (by kernel_rfl)) fun b29=>?_
  have:([{Act.zero with kind:=19,n:=(c0.to_.row+1),m:=(c0.to_.col+1)}]:List Act).length=1:=rfl
  have hq35:=B6x hR;clear hR;obtain ⟨R30,hR,hq35⟩:=hq35;rw [hq35] at hILt
  refine it rfl (A4i (L2:=[bx b2 [.func (.func 106) #[ag (F2 c0)] #[]] 169,bx b1 [.func (.yield l) #[] #[]] 168]) (hY ([{Act.zero with kind:=19,n:=(c0.to_.row+1),m:=(c0.to_.col+1)}]:List Act) R30 _ _ (some ⟨b29,0,none⟩) 1 (by first|omega|(simp<;>omega)|(dsimp only;omega)|decide) (by first|omega|(simp<;>omega)|(dsimp only;omega)|decide) hILt) rfl rfl rfl rfl (A0.con1 (A2 0 rfl) (A0.dropT 3 rfl)) (M1 [[bx b2 [.func (.func 106) #[ag (F2 c0)] #[]] 169],[bx b1 [.func (.yield l) #[] #[]] 168],Lt] [2,0,1] 3 rfl (by decide) rfl [Lt,[bx b2 [.func (.func 106) #[ag (F2 c0)] #[]] 169],[bx b1 [.func (.yield l) #[] #[]] 168]] rfl (by simp only [List.flatten_cons,List.flatten_nil,List.append_nil,List.cons_append,List.nil_append,List.append_assoc]))) fun ⟨⟨y31,L32,Φ33⟩,hy34⟩=>?_
  refine A7o (A0.yield [sl B0 (some ⟨b29,0,none⟩) ([{Act.zero with kind:=19,n:=(c0.to_.row+1),m:=(c0.to_.col+1)}]:List Act),at_ b3 (F2 (M8 c0)),at_ c0p (F2 c0)]) ?_
  subst hR
  refine A6 ?_
  exact Y2 rfl ⟨hr,hD⟩ (by exact (U3.cons (show U3 X.D by rw [hD];exact U3.nil) hd28)) (B4y rfl) (L':=L32) (Φ':=Φ33) (by cases y31<;>first|exact .inr (by simpa using hy34)|exact .inl (by simpa using hy34)) (mcT [L32,[bx b2 [.func (.func 106) #[ag (F2 c0)] #[]] 169],[bx b1 [.func (.yield l) #[] #[]] 168]] 0 rfl rfl) (A0.dropT 3 rfl)
 ·rintro d36 _ ⟨R_,Lt,Ft⟩ hd36 ⟨rfl,hJx⟩
  try dsimp only at hJx
  refine B1 ?_
  exact B8q rfl ⟨hr,hD⟩ (by exact (U3.cons (show U3 X.D by rw [hD];exact U3.nil) hd36)) (B4y rfl) (L':=Lt) (Φ':=Ft) (by exact .inr hJx) (mcT [[bx b2 [.func (.func 106) #[ag (F2 c0)] #[]] 169],[bx b1 [.func (.yield l) #[] #[]] 168],Lt] 2 rfl rfl) (A0.dropT 2 rfl)
def U1:List (List Act)→List (List Act)→(List (List Act)×Int)
 | [],out=>(out,0)
 | el::rest,out=>U1 rest (out++([el]:List (List Act)))
def A2u (cols:Int) (rows:Int) (from_:Cur) (to_:Plc):List (List Act)×Int :=
 (bif (!decide ((F3 cols rows (⟨from_,to_⟩:Pth))=0)) then (([]:List (List Act)),(F3 cols rows (⟨from_,to_⟩:Pth))) else U1 (C2 (K4 (⟨from_,to_⟩:Pth))) ([]:List (List Act)))
theorem C1f:∀ (l out:List (List Act)),U1 l out=(out++l,0)
 | [],out=>by rw [U1,List.append_nil]
 | el::l,out=>by rw [U1,C1f l,List.append_assoc];rfl
theorem D1q (c r:Int) (f:Cur) (t:Plc):A2u c r f t=bif !decide (F3 c r ⟨f,t⟩=0) then ([],F3 c r ⟨f,t⟩) else (C2 ⟨f,t⟩,0):=by
 unfold A2u;rw [C1f];rfl
theorem D2b {c r:Int} {f:Cur} {t:Plc} {R:List (List Act)×Int} (h:A2u c r f t=R):(∀ e ∈ R.1,B1l e)∧R.1.length≤20:=by
 subst h;rw [D1q]
 cases hc:(!decide (F3 c r ⟨f,t⟩=0)) with
 | true=>exact ⟨fun e he=>(by cases he),Nat.zero_le _⟩
 | false=>exact ⟨(A9s (A5x hc)).1,Nat.le_trans (A9s (A5x hc)).2 (by omega)⟩
theorem B5g (cols:Int) (rows:Int) (from_:Cur) (to_:Plc) (R:List (List Act)×Int) (hR:A2u cols rows from_ to_=R):Con Tryz.prog 26 [iv cols,iv rows,ag (O0 from_),ag (P3 to_)] [] [] ({t:VR×List Slc // VOk 1 R.1.length t.1∧D7 t.2 R.1}) (fun x=>.tuple #[.slice (va x.1.1.q) R.1.length x.1.1.k,iv R.2]) (fun x=>((vo G4 27 x.1.1 x.1.2)++([]))) (fun x=>[I4 B0 x.1.2 R.1]):=by
 refine zco Tryz.func26 [(0,iv cols),(1,iv rows),(2,ag (O0 from_)),(3,ag (P3 to_))] fun X hX hr hD=>?_
 replace hR:=(A2u.eq_1 ..).symm.trans hR
 refine sr 4 rfl (C0k 4 0 [] (fun b1 b2=>[(6,pt b1 0),(7,pt b2 0)]) (fun b1 b2=>[bx b2 (P3 to_) 54,bx b1 (O0 from_) 52]) (fun b1 b2=>(ie (sr 5 rfl (Q9 5 0 [1,0,0] (fun b3=>[(10,pt b3 0)]) (fun b3=>[bx b3 (F2 (⟨from_,to_⟩:Pth)) 100,bx b2 (P3 to_) 54,bx b1 (O0 from_) 52]) (fun b3=>(ie (A7 (sr 5 rfl (zrl 3 2 [0] [(17,iv cols),(18,iv rows),(19,ag (F2 (⟨from_,to_⟩:Pth)))] (zca (B0w cols rows (⟨from_,to_⟩:Pth) _ rfl) fn0 (ip' 1 0 [(11,iv (F3 cols rows (⟨from_,to_⟩:Pth)))] (ie (sr 2 rfl (ip' 2 0 [(22,bv (!decide ((F3 cols rows (⟨from_,to_⟩:Pth))=0)))] (ie ?_))))))))))))))))
 refine zjn rfl hR ?_ ?_<;>clear hR<;>intro hR h4 h4p
 ·refine sr 3 rfl (ip' 3 0 [(8,.slice none 0 0),(9,iv (F3 cols rows (⟨from_,to_⟩:Pth)))] ?_)
  subst hR
  refine ie (B1 ?_)
  exact zer hr hD (A4c rfl (C0 rfl) (C0 rfl)) ⟨(VR.nil,([]:List Slc)),⟨VOk.nil,D7.none⟩⟩ (mc [[bx b3 (F2 (⟨from_,to_⟩:Pth)) 100],[bx b2 (P3 to_) 54],[bx b1 (O0 from_) 52],vo G4 27 VR.nil ([]:List Slc)] [false,false,false,true] rfl (by first|rfl|(simp only [List.length_set]<;>rfl))) (A0.con1 P2 fn0)
 have hbd:=A5x h4
 refine A9 (nx (sr 1 rfl (Q9 1 0 [] (fun b5=>[(12,pt b5 0)]) (fun b5=>[bx b5 [.slice none 0 0] 55,bx b3 (F2 (⟨from_,to_⟩:Pth)) 100,bx b2 (P3 to_) 54,bx b1 (O0 from_) 52]) (fun b5=>(ie (A7 (sr 2 rfl (zrl 1 1 [1] [(24,ag (F2 (⟨from_,to_⟩:Pth)))] ?_))))))))
 refine zcm (A8v (⟨from_,to_⟩:Pth) _ rfl) fn0 fun b6=>?_
 refine ie (B2 (A2d (M1 [vo G4 27 VR.nil ([]:List Slc),[bx b5 [.slice none 0 0] 55],[bx b3 (F2 (⟨from_,to_⟩:Pth)) 100],[bx b2 (P3 to_) 54],[bx b1 (O0 from_) 52]] [1,2,3,4,0] 5 rfl (by decide) rfl [[bx b5 [.slice none 0 0] 55],[bx b3 (F2 (⟨from_,to_⟩:Pth)) 100],[bx b2 (P3 to_) 54],[bx b1 (O0 from_) 52],vo G4 27 VR.nil ([]:List Slc)] rfl (by first|rfl|simp)) ?_))
 refine C8c [(12,pt b5 0),(25,.func (.func 105) #[] #[pa b6])] ⟨rfl,rfl,trivial⟩ ?_
 refine B8u (cc:=B0) (xs:=(C2 (K4 (⟨from_,to_⟩:Pth)))) (σ:=List (List Act)×VR×List Slc) hr rfl (A6t (K4 (⟨from_,to_⟩:Pth)) b6 (by first|exact hbd|assumption) _ rfl) A0.refl rfl rfl (fun rem x=>U1 rem x.1=R∧VOk 1 x.1.length x.2.1∧D7 x.2.2 x.1∧(∀ e ∈ rem,B1l e)∧x.1.length+rem.length≤20) (fun _ _=>False) (fun x=>(bx b5 [.slice (va x.2.1.q) x.1.length x.2.1.k] 55::bx b3 (F2 (⟨from_,to_⟩:Pth)) 100::bx b2 (P3 to_) 54::bx b1 (O0 from_) 52::(vo G4 27 x.2.1 x.2.2)++([]))) (fun x=>[at_ b6 (F2 (K4 (⟨from_,to_⟩:Pth))),I4 B0 x.2.2 x.1]) (([]:List (List Act)),VR.nil,([]:List Slc)) (by exact ⟨hR,VOk.nil,D7.none,(by exact (A9s hbd).1),(by exact Nat.le_trans (Nat.le_of_eq (Nat.zero_add _)) (Nat.le_trans (A9s hbd).2 (by omega)))⟩) (mc [[bx b5 [.slice none 0 0] 55],[bx b3 (F2 (⟨from_,to_⟩:Pth)) 100],[bx b2 (P3 to_) 54],[bx b1 (O0 from_) 52],vo G4 27 VR.nil ([]:List Slc)] [true,true,true,true,true] rfl (by first|rfl|(simp only [List.length_set]<;>rfl))) (A0.con1 (A2 0 rfl) (A0.con1 P2 fn0)) ?_ ?_ (fun _ _ _ _ h=>h.elim)
 ·rintro el rest ⟨out,outr,outrs⟩ qel kel hc8 hl9 hI Y Y' K' hY' hK
  try dsimp only at hI
  obtain ⟨hR,hokoutr,hrowsoutrs,hel,hout⟩:=hI
  replace hR:=(U1.eq_2 ..).symm.trans hR
  have:=VOk.le hokoutr
  refine A4 1 rfl (ip' 1 0 [(13,.slice qel el.length kel)] (A6 (hK _ _ _ ?_)))
  refine B2 (A4 5 rfl (zrl 2 3 [0] [(27,.slice (va outr.q) out.length outr.k),(28,.slice qel el.length kel)] ?_))
  refine it rfl (B7 (c:=G4) (xs:=([⟨qel,el.length,kel⟩]:List Slc)) B5f rfl rfl rfl (by kernel_rfl)) fun b10=>?_
  have hrows11:D7 ([⟨qel,el.length,kel⟩]:List Slc) ([el]:List (List Act)):=(D7.cons ⟨rfl,(by first|omega|(simp<;>omega)|(dsimp only;omega)|decide),(by first|omega|(simp<;>omega)|(dsimp only;omega)|decide)⟩ D7.none)
  refine D5 (q:=I4 B0 ([⟨qel,el.length,kel⟩]:List Slc) ([el]:List (List Act))) (A1d (A2 1 rfl) P2) ?_
  have:([⟨qel,el.length,kel⟩]:List Slc).length=1:=rfl
  have hw14:D7 (outrs++([⟨qel,el.length,kel⟩]:List Slc)) (out++([el]:List (List Act))):=D7.append hrowsoutrs hrows11
  refine it rfl (U4 (r:=outr) (rs:=outrs) (xss:=out) (pre:=[bx b5 [.slice (va outr.q) out.length outr.k] 55,bx b3 (F2 (⟨from_,to_⟩:Pth)) 100,bx b2 (P3 to_) 54,bx b1 (O0 from_) 52]) (post:=[]) B9h rfl rfl rfl rfl rfl rfl rfl rfl rfl (A2 1 rfl) (A2 4 rfl) (A2 0 rfl) hrowsoutrs hrows11 hokoutr (by first|omega|(simp<;>omega)) (by first|omega|(simp<;>omega))) fun ⟨r12,hr13⟩=>?_
  have:=VOk.le hr13
  have:=VOk.cap hr13
  have:([el]:List (List Act)).length=1:=rfl
  have:(out++([el]:List (List Act))).length=out.length+1:=List.length_append
  refine zrg 1 0 [0] [] (bx b5 [.slice (va r12.q) ((out++([el]:List (List Act))).length) r12.k] 55::bx b3 (F2 (⟨from_,to_⟩:Pth)) 100::bx b2 (P3 to_) 54::bx b1 (O0 from_) 52::(vo G4 27 r12 (outrs++([⟨qel,el.length,kel⟩]:List Slc)))++([])) (A6 ?_)
  refine A8a (I:=fun rem x=>U1 rem x.1=R∧VOk 1 x.1.length x.2.1∧D7 x.2.2 x.1∧(∀ e ∈ rem,B1l e)∧x.1.length+rem.length≤20) (Jx:=fun _ _=>False) (Lk:=fun x=>(bx b5 [.slice (va x.2.1.q) x.1.length x.2.1.k] 55::bx b3 (F2 (⟨from_,to_⟩:Pth)) 100::bx b2 (P3 to_) 54::bx b1 (O0 from_) 52::(vo G4 27 x.2.1 x.2.2)++([]))) (Φk:=fun x=>[at_ b6 (F2 (K4 (⟨from_,to_⟩:Pth))),I4 B0 x.2.2 x.1]) (rest:=rest) ((out++([el]:List (List Act))),r12,(outrs++([⟨qel,el.length,kel⟩]:List Slc))) (by exact ⟨hR,hr13,hw14,(by exact fun e he=>hel e (List.mem_cons_of_mem _ he)),(by simp only [List.length_cons,List.length_nil,List.length_append] at hout ⊢;omega)⟩) (mc [[bx b5 [.slice (va r12.q) ((out++([el]:List (List Act))).length) r12.k] 55],[bx b3 (F2 (⟨from_,to_⟩:Pth)) 100],[bx b2 (P3 to_) 54],[bx b1 (O0 from_) 52],vo G4 27 r12 (outrs++([⟨qel,el.length,kel⟩]:List Slc))] [true,true,true,true,true] rfl (by first|rfl|(simp only [List.length_set]<;>rfl))) ?_
  exact (A0.pick [4,0] rfl)
 ·rintro d15 ⟨out,outr,outrs⟩ hd15 hI
  try dsimp only at hI
  obtain ⟨hR,hokoutr,hrowsoutrs,hel,hout⟩:=hI
  replace hR:=(U1.eq_1 ..).symm.trans hR
  have:=VOk.le hokoutr
  refine nx (sr 3 rfl (zrl 3 0 [0] [(8,.slice (va outr.q) out.length outr.k),(9,iv 0)] ?_))
  subst hR
  refine ie (B1 ?_)
  exact B4b rfl ⟨hr,hD⟩ (by exact (U3.cons (show U3 X.D by rw [hD];exact U3.nil) hd15)) (A4c rfl (C0 rfl) (C0 rfl)) ⟨(outr,outrs),⟨hokoutr,hrowsoutrs⟩⟩ (by rfl) (mc [[bx b5 [.slice (va outr.q) out.length outr.k] 55],[bx b3 (F2 (⟨from_,to_⟩:Pth)) 100],[bx b2 (P3 to_) 54],[bx b1 (O0 from_) 52],vo G4 27 outr outrs] [false,false,false,false,true] rfl (by first|rfl|(simp only [List.length_set]<;>rfl))) (A0.con1 (A2 1 rfl) fn0)
end Go.Proofs.YtanighkpfmgnbaaGreatDoor
set_option linter.unusedVariables false
set_option linter.unusedSimpArgs false
set_option linter.unnecessarySimpa false
set_option maxRecDepth 100000
namespace Go.Proofs.YtanighkpfmgnbaaGreatDoor
open Go Go.Fen
def D6:List (List Act)→List Act→Int→(List Act×Int)
 | [],ffoundway,ffoundcost=>(ffoundway,0)
 | el::rest,ffoundway,ffoundcost=>(B4 (J6 el) fun (y0:List UInt8×Int)=>(bif ((!decide (y0.2=0))||((decide ((0:Int)≤ffoundcost))&&(decide (ffoundcost≤(y0.1.length:Int))))) then D6 rest ffoundway ffoundcost else D6 rest el (y0.1.length:Int)))
def A1k (cols:Int) (rows:Int) (from_:Cur) (to_:Plc):List Act×Int :=
 (bif (!decide ((F3 cols rows (⟨from_,to_⟩:Pth))=0)) then (([]:List Act),(F3 cols rows (⟨from_,to_⟩:Pth))) else D6 (C2 (K4 (⟨from_,to_⟩:Pth))) ([]:List Act) (-1))
theorem B1n:∀ (l:List (List Act)) (w:List Act) (k:Int),(∀ e ∈ l,B1l e)→B1l w→B1l (D6 l w k).1∧(D6 l w k).2=0
 | [],w,k,_,hw=>⟨hw,rfl⟩
 | el::l,w,k,h,hw=>by
  have hl:=fun e he=>h e (List.mem_cons_of_mem _ he)
  rw [D6];simp only [B4]
  cases ((!decide ((J6 el).2=0))||((decide ((0:Int)≤k))&&(decide (k≤((J6 el).1.length:Int))))) with
  | true=>exact B1n l w k hl hw
  | false=>exact B1n l el _ hl (h el (List.mem_cons_self ..))
theorem D3b (c r:Int) (f:Cur) (t:Plc):A1k c r f t=bif !decide (F3 c r ⟨f,t⟩=0) then ([],F3 c r ⟨f,t⟩) else D6 (C2 ⟨f,t⟩) [] (-1):=rfl
theorem C0s {c r:Int} {f:Cur} {t:Plc} {R:List Act×Int} (h:A1k c r f t=R):B1l R.1:=by
 subst h;rw [D3b]
 have h0:B1l ([]:List Act):=⟨Nat.zero_le _,fun a ha=>by cases ha⟩
 cases hc:(!decide (F3 c r ⟨f,t⟩=0)) with
 | true=>exact h0
 | false=>exact (B1n _ _ _ (A9s (A5x hc)).1 h0).1
theorem A6f (cols:Int) (rows:Int) (from_:Cur) (to_:Plc) (R:List Act×Int) (hR:A1k cols rows from_ to_=R):Con Tryz.prog 30 [iv cols,iv rows,ag (O0 from_),ag (P3 to_)] [] [B3p,B2n,O6,N7,K6,Q7] ({t:Option Addr×Nat // R.1.length≤t.2∧R.1.length≤9223372036854775807}) (fun x=>.tuple #[.slice x.1.1 R.1.length x.1.2,iv R.2]) (fun x=>[]) (fun x=>[sl B0 x.1.1 R.1]):=by
 refine zco Tryz.func30 [(0,iv cols),(1,iv rows),(2,ag (O0 from_)),(3,ag (P3 to_))] fun X hX hr hD=>?_
 replace hR:=(A1k.eq_1 ..).symm.trans hR
 refine sr 4 rfl (C0k 4 0 [] (fun b1 b2=>[(6,pt b1 0),(7,pt b2 0)]) (fun b1 b2=>[bx b2 (P3 to_) 54,bx b1 (O0 from_) 52]) (fun b1 b2=>(ie (D2f (sr 5 rfl (Q9 5 0 [1,0,0] (fun b3=>[(10,pt b3 0)]) (fun b3=>[bx b3 (F2 (⟨from_,to_⟩:Pth)) 100,bx b2 (P3 to_) 54,bx b1 (O0 from_) 52]) (fun b3=>(ie (A7 (sr 5 rfl (zrl 3 2 [0] [(19,iv cols),(20,iv rows),(21,ag (F2 (⟨from_,to_⟩:Pth)))] (zca (B0w cols rows (⟨from_,to_⟩:Pth) _ rfl) fn0 (ip' 1 0 [(11,iv (F3 cols rows (⟨from_,to_⟩:Pth)))] (ie (sr 2 rfl (ip' 2 0 [(24,bv (!decide ((F3 cols rows (⟨from_,to_⟩:Pth))=0)))] (ie ?_)))))))))))))))))
 refine zjn rfl hR ?_ ?_<;>clear hR<;>intro hR h4 h4p
 ·refine sr 3 rfl (ip' 3 0 [(8,.slice none 0 0),(9,iv (F3 cols rows (⟨from_,to_⟩:Pth)))] ?_)
  subst hR
  refine ie (B1 ?_)
  exact zer hr hD (A4c rfl (C0 rfl) (C0 rfl)) (zq none 0) (mk [false,false,false] rfl) (A0.con1 A5c fn0)
 have hbd:=A5x h4
 refine A9 (nx (sr 4 rfl (Q9 4 0 [0] (fun b5=>[(12,pt b5 0)]) (fun b5=>[bx b5 [.slice none 0 0,iv (-1)] 109,bx b3 (F2 (⟨from_,to_⟩:Pth)) 100,bx b2 (P3 to_) 54,bx b1 (O0 from_) 52]) (fun b5=>(ie (A7 (D2k (nx (A7 (sr 2 rfl (zrl 1 1 [1] [(28,ag (F2 (⟨from_,to_⟩:Pth)))] ?_)))))))))))
 refine zcm (A8v (⟨from_,to_⟩:Pth) _ rfl) fn0 fun b6=>?_
 refine ie (B2 (C8c [(12,pt b5 0),(29,.func (.func 105) #[] #[pa b6])] ⟨rfl,rfl,trivial⟩ ?_))
 refine B8u (cc:=B0) (xs:=(C2 (K4 (⟨from_,to_⟩:Pth)))) (σ:=List Act×Option Addr×Nat×Int) hr rfl (A6t (K4 (⟨from_,to_⟩:Pth)) b6 (by first|exact hbd|assumption) _ rfl) (A0.pick [0] rfl) rfl rfl (fun rem x=>D6 rem x.1 x.2.2.2=R∧x.1.length≤x.2.2.1∧x.1.length≤9223372036854775807∧(∀ e ∈ rem,B1l e)) (fun _ _=>False) (fun x=>[bx b5 [.slice x.2.1 x.1.length x.2.2.1,iv x.2.2.2] 109,bx b3 (F2 (⟨from_,to_⟩:Pth)) 100,bx b2 (P3 to_) 54,bx b1 (O0 from_) 52]) (fun x=>[at_ b6 (F2 (K4 (⟨from_,to_⟩:Pth))),B3p,B2n,O6,N7,K6,Q7,sl B0 x.2.1 x.1]) (([]:List Act),none,0,(-1)) (by exact ⟨hR,(by first|omega|(simp<;>omega)|(dsimp only;omega)|decide),(by first|omega|(simp<;>omega)|(dsimp only;omega)|decide),(by exact (A9s hbd).1)⟩) (mk [true,true,true,true] rfl) (A0.con1 (A2 0 rfl) (A0.con1 (A2 1 rfl) (A0.con1 (A2 2 rfl) (A0.con1 (A2 3 rfl) (A0.con1 (A2 4 rfl) (A0.con1 (A2 5 rfl) (A0.con1 (A2 6 rfl) (A0.con1 A5c fn0)))))))) ?_ ?_ (fun _ _ _ _ h=>h.elim)
 ·rintro el rest ⟨ffoundway,ffoundwayq,ffoundwayk,ffoundcost⟩ qel kel hc8 hl9 hI Y Y' K' hY' hK
  try dsimp only at hI
  obtain ⟨hR,hcffoundway,hlffoundway,hel⟩:=hI
  replace hR:=(D6.eq_2 ..).symm.trans hR
  refine A4 1 rfl (ip' 1 0 [(13,.slice qel el.length kel)] (A6 (hK _ _ _ ?_)))
  refine B2 (sr 7 rfl (ip' 1 6 [(32,.slice qel el.length kel)] ?_))
  have hQ:=E9 hR;clear hR;obtain ⟨y0,hy0,hR⟩:=hQ
  refine it rfl (R9 (L2:=[bx b5 [.slice ffoundwayq ffoundway.length ffoundwayk,iv ffoundcost] 109,bx b3 (F2 (⟨from_,to_⟩:Pth)) 100,bx b2 (P3 to_) 54,bx b1 (O0 from_) 52]) (B1p el qel kel (by first|omega|(simp<;>omega)|(dsimp only;omega)|decide) (by first|omega|(simp<;>omega)|(dsimp only;omega)|decide) (by first|exact B8l hel|exact A4d hbm|exact A4d (B8d hwq.1 _)|exact fun x hx=>by rw [(hpen x hx).2];exact Nat.zero_le _|exact fun x hx=>hnt x hx|assumption|decide|exact fun x hx=>Nat.le_trans (hrow x hx) (by decide)|exact fun x hx=>Nat.le_trans (of_decide_eq_true (List.all_eq_true.1 hbt x hx)) (by decide)|(intro x hx;simp only [List.nil_append,List.mem_append] at hx;rcases hx with hx|hx<;>first|exact Nat.le_trans (hrow x hx) (by decide)|exact Nat.le_trans (hpt x hx) (by decide))|(intro x hx;rw [List.mem_singleton.1 hx];omega)|exact fun x hx=>Nat.le_trans (hrow x (List.mem_of_mem_take hx)) (by decide)|exact fun x hx=>Nat.le_trans (hrow x (List.mem_of_mem_drop hx)) (by decide)|exact fun x hx=>Nat.le_trans (hrow x (List.mem_of_mem_drop (List.mem_of_mem_take hx))) (by decide)|omega) y0 hy0) rfl rfl rfl rfl rfl (A0.pick [0,2,3,4,5,6,7] rfl) (List.Perm.refl _) (fun ⟨r10,hk11⟩=>(bx b5 [.slice ffoundwayq ffoundway.length ffoundwayk,iv ffoundcost] 109::bx b3 (F2 (⟨from_,to_⟩:Pth)) 100::bx b2 (P3 to_) 54::bx b1 (O0 from_) 52::(vo cU8 5 r10 y0.1)++([]))) (fun ⟨r10,hk11⟩=>M1 [vo cU8 5 r10 y0.1,[bx b5 [.slice ffoundwayq ffoundway.length ffoundwayk,iv ffoundcost] 109],[bx b3 (F2 (⟨from_,to_⟩:Pth)) 100],[bx b2 (P3 to_) 54],[bx b1 (O0 from_) 52]] [1,2,3,4,0] 5 rfl (by decide) (by first|rfl|simp) [[bx b5 [.slice ffoundwayq ffoundway.length ffoundwayk,iv ffoundcost] 109],[bx b3 (F2 (⟨from_,to_⟩:Pth)) 100],[bx b2 (P3 to_) 54],[bx b1 (O0 from_) 52],vo cU8 5 r10 y0.1] rfl (by first|rfl|simp))) fun ⟨r10,hk11⟩=>?_
  have:=VOk.le hk11
  have:=VOk.cap hk11
  try have:=A8g el (fun x hx=>Nat.le_trans (hrow x (by first|exact hx|exact List.mem_of_mem_take hx|exact List.mem_of_mem_drop hx)) (by decide));try rw [hy0] at this
  refine ip' 5 0 [(14,.slice (va r10.q) y0.1.length r10.k),(15,iv y0.2)] (ie (A7 (sr 16 rfl (ip' 3 13 [(38,bv (!decide (y0.2=0)))] ?_))))
  refine zio 13 0 38 51 ((decide ((0:Int)≤ffoundcost))&&(decide (ffoundcost≤(y0.1.length:Int)))) (fun g12=>?_) ?_
  ·have g12p:¬ (¬ y0.2=0):=by simpa using g12
   refine zrl 5 8 [0] [(43,bv (decide ((0:Int)≤ffoundcost)))] ?_
   refine zid 7 1 43 50 (decide (ffoundcost≤(y0.1.length:Int))) (fun g13 g13p=>?_) ?_
   ·refine zrl 7 0 [0] [(50,bv (decide (ffoundcost≤(y0.1.length:Int))))] ?_
    exact A6 (X8 2 43 50 g13 A0.refl (mc [[bx b5 [.slice ffoundwayq ffoundway.length ffoundwayk,iv ffoundcost] 109],[bx b3 (F2 (⟨from_,to_⟩:Pth)) 100],[bx b2 (P3 to_) 54],[bx b1 (O0 from_) 52],vo cU8 5 r10 y0.1] [true,true,true,true,true] rfl (by first|rfl|(simp only [List.length_set]<;>rfl))) rfl rfl rfl rfl rfl)
   refine ip' 1 0 [(51,bv ((decide ((0:Int)≤ffoundcost))&&(decide (ffoundcost≤(y0.1.length:Int)))))] ?_
   exact A6 (X8 4 38 51 g12 A0.refl (mc [[bx b5 [.slice ffoundwayq ffoundway.length ffoundwayk,iv ffoundcost] 109],[bx b3 (F2 (⟨from_,to_⟩:Pth)) 100],[bx b2 (P3 to_) 54],[bx b1 (O0 from_) 52],vo cU8 5 r10 y0.1] [true,true,true,true,true] rfl (by first|rfl|(simp only [List.length_set]<;>rfl))) rfl rfl rfl rfl rfl)
  refine ie ?_
  refine zjb rfl hR ?_ ?_<;>clear hR<;>intro hR h14
  ·have h14p:(¬ y0.2=0)∨(((0:Int)≤ffoundcost)∧(ffoundcost≤(y0.1.length:Int))):=by simpa using h14
   refine J5 ?_
   refine A8a (I:=fun rem x=>D6 rem x.1 x.2.2.2=R∧x.1.length≤x.2.2.1∧x.1.length≤9223372036854775807∧(∀ e ∈ rem,B1l e)) (Jx:=fun _ _=>False) (Lk:=fun x=>[bx b5 [.slice x.2.1 x.1.length x.2.2.1,iv x.2.2.2] 109,bx b3 (F2 (⟨from_,to_⟩:Pth)) 100,bx b2 (P3 to_) 54,bx b1 (O0 from_) 52]) (Φk:=fun x=>[at_ b6 (F2 (K4 (⟨from_,to_⟩:Pth))),B3p,B2n,O6,N7,K6,Q7,sl B0 x.2.1 x.1]) (rest:=rest) (ffoundway,ffoundwayq,ffoundwayk,ffoundcost) (by exact ⟨hR,(by first|omega|(simp<;>omega)|(dsimp only;omega)|decide),(by first|omega|(simp<;>omega)|(dsimp only;omega)|decide),(by exact fun e he=>hel e (List.mem_cons_of_mem _ he))⟩) (mc [[bx b5 [.slice ffoundwayq ffoundway.length ffoundwayk,iv ffoundcost] 109],[bx b3 (F2 (⟨from_,to_⟩:Pth)) 100],[bx b2 (P3 to_) 54],[bx b1 (O0 from_) 52],vo cU8 5 r10 y0.1] [true,true,true,true,false] rfl (by first|rfl|(simp only [List.length_set]<;>rfl))) ?_
   exact (A0.pick [1,2,3,4,5,6,7,8] rfl)
  have h14p:¬ ((¬ y0.2=0)∨(((0:Int)≤ffoundcost)∧(ffoundcost≤(y0.1.length:Int)))):=by simpa using h14
  refine A9 (nx (A4 9 rfl (zrg 9 0 [0,0] [] (bx b5 [.slice qel el.length kel,iv (y0.1.length:Int)] 109::bx b3 (F2 (⟨from_,to_⟩:Pth)) 100::bx b2 (P3 to_) 54::bx b1 (O0 from_) 52::(vo cU8 5 r10 y0.1)++([])) (A6 ?_))))
  refine A8a (I:=fun rem x=>D6 rem x.1 x.2.2.2=R∧x.1.length≤x.2.2.1∧x.1.length≤9223372036854775807∧(∀ e ∈ rem,B1l e)) (Jx:=fun _ _=>False) (Lk:=fun x=>[bx b5 [.slice x.2.1 x.1.length x.2.2.1,iv x.2.2.2] 109,bx b3 (F2 (⟨from_,to_⟩:Pth)) 100,bx b2 (P3 to_) 54,bx b1 (O0 from_) 52]) (Φk:=fun x=>[at_ b6 (F2 (K4 (⟨from_,to_⟩:Pth))),B3p,B2n,O6,N7,K6,Q7,sl B0 x.2.1 x.1]) (rest:=rest) (el,qel,kel,(y0.1.length:Int)) (by exact ⟨hR,(by first|omega|(simp<;>omega)|(dsimp only;omega)|decide),(by first|omega|(simp<;>omega)|(dsimp only;omega)|decide),(by exact fun e he=>hel e (List.mem_cons_of_mem _ he))⟩) (mc [[bx b5 [.slice qel el.length kel,iv (y0.1.length:Int)] 109],[bx b3 (F2 (⟨from_,to_⟩:Pth)) 100],[bx b2 (P3 to_) 54],[bx b1 (O0 from_) 52],vo cU8 5 r10 y0.1] [true,true,true,true,false] rfl (by first|rfl|(simp only [List.length_set]<;>rfl))) ?_
  exact (A0.pick [1,2,3,4,5,6,7,0] rfl)
 ·rintro d15 ⟨ffoundway,ffoundwayq,ffoundwayk,ffoundcost⟩ hd15 hI
  try dsimp only at hI
  obtain ⟨hR,hcffoundway,hlffoundway,hel⟩:=hI
  replace hR:=(D6.eq_1 ..).symm.trans hR
  refine nx (sr 5 rfl (zrl 5 0 [0] [(8,.slice ffoundwayq ffoundway.length ffoundwayk),(9,iv 0)] ?_))
  subst hR
  refine ie (B1 ?_)
  exact B4b rfl ⟨hr,hD⟩ (by exact (U3.cons (show U3 X.D by rw [hD];exact U3.nil) hd15)) (A4c rfl (C0 rfl) (C0 rfl)) (zq ffoundwayq ffoundwayk) (by rfl) (mk [false,false,false,false] rfl) (A0.con1 (A2 7 rfl) fn0)
end Go.Proofs.YtanighkpfmgnbaaGreatDoor
