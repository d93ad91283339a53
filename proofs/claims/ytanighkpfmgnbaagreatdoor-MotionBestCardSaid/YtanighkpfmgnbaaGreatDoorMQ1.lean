import Derived.Test.YtanighkpfmgnbaaGreatDoorProg
import Derived.Test.YtanighkpfmgnbaaGreatDoorMA2
import Derived.Test.YtanighkpfmgnbaaGreatDoorMB1
import Derived.Test.YtanighkpfmgnbaaGreatDoorMA3
import Derived.Test.YtanighkpfmgnbaaGreatDoorMB2
import Derived.Test.YtanighkpfmgnbaaGreatDoorMB3
set_option linter.unusedVariables false
set_option linter.unusedSimpArgs false
set_option linter.unnecessarySimpa false
set_option maxRecDepth 100000
namespace Go.Proofs.YtanighkpfmgnbaaGreatDoor
open Go Go.Fen
theorem E7h:ApTy Tryz.prog 65 73 12 96:=⟨by kernel_rfl,by kernel_rfl,rfl⟩
theorem E5y:ApTy Tryz.prog 160 4 1 1:=⟨by kernel_rfl,by kernel_rfl,rfl⟩
theorem D0d:SlTy Tryz.prog 65 73 12:=⟨by kernel_rfl,by kernel_rfl⟩
theorem E5n:SlTy Tryz.prog 160 4 1:=⟨by kernel_rfl,by kernel_rfl⟩
theorem E9d:Ty Tryz.prog 73 12 true:=⟨by kernel_rfl⟩
theorem D5w:Ty Tryz.prog 115 2 true:=⟨by kernel_rfl⟩
theorem E7r:Ty Tryz.prog 159 13 true:=⟨by kernel_rfl⟩
theorem E6z:Zero Tryz.prog 4 [bv false]:=⟨by kernel_rfl⟩
theorem E6h:Zero Tryz.prog 73 (A3l Cel.zero):=⟨by kernel_rfl⟩
structure Cur where
 row:Int
 col:Int
 wrap:Bool
deriving DecidableEq
def H2 (x:Cur):List Value:=[.int .i64 x.row,.int .i64 x.col,.bool x.wrap]
def Cur.zero:Cur:=⟨0,0,false⟩
theorem H2.inj (x y:Cur) (h:H2 x=H2 y):x=y:=by
 rcases x with ⟨_,_,_⟩
 rcases y with ⟨_,_,_⟩
 simp [H2,bs] at h
 simp_all
structure Pth where
 frm:Cur
 to_:Plc
deriving DecidableEq
def F4 (x:Pth):List Value:=H2 x.frm++(I0 x.to_)
def Pth.zero:Pth:=⟨Cur.zero,Plc.zero⟩
theorem F4.inj (x y:Pth) (h:F4 x=F4 y):x=y:=by
 rcases x with ⟨⟨_,_,_⟩,⟨_,_⟩⟩
 rcases y with ⟨⟨_,_,_⟩,⟨_,_⟩⟩
 simp [H2,I0,F4,bs] at h
 simp_all
def C5v:Bool×Bool×Bool×Bool×Bool×Bool×Bool×Bool×Bool×Bool×Bool×Int×Bool :=
 (false,false,false,false,false,true,true,false,false,false,false,0,false)
theorem D4a (R:Bool×Bool×Bool×Bool×Bool×Bool×Bool×Bool×Bool×Bool×Bool×Int×Bool) (hR:C5v=R):K5 Tryz.prog 149 [] [] (ag [bv R.1,bv R.2.1,bv R.2.2.1,bv R.2.2.2.1,bv R.2.2.2.2.1,bv R.2.2.2.2.2.1,bv R.2.2.2.2.2.2.1,bv R.2.2.2.2.2.2.2.1,bv R.2.2.2.2.2.2.2.2.1,bv R.2.2.2.2.2.2.2.2.2.1,bv R.2.2.2.2.2.2.2.2.2.2.1,iv R.2.2.2.2.2.2.2.2.2.2.2.1,bv R.2.2.2.2.2.2.2.2.2.2.2.2]):=by
 refine zco Tryz.func149 [] fun X hX hr hD=>?_
 replace hR:=(C5v.eq_1 ..).symm.trans hR
 refine sr 1 rfl (P1 1 0 [] (fun b1=>[(0,pt b1 0)]) (fun b1=>[bx b1 [bv false,bv false,bv false,bv false,bv false,bv false,bv false,bv false,bv false,bv false,bv false,iv 0,bv false] 159]) (fun b1=>(ie (sr 2 rfl (zrg 2 0 [0] [] [bx b1 [bv false,bv false,bv false,bv false,bv false,bv true,bv true,bv false,bv false,bv false,bv false,iv 0,bv false] 159] ?_)))))
 subst hR
 refine ie (B0 ?_)
 exact zer hr hD (O3 rfl (G3 (us:=[bv false,bv false,bv false,bv false,bv false,bv true,bv true,bv false,bv false,bv false,bv false,iv 0,bv false]) E7r rfl 0 rfl rfl rfl)) () (mk [false] rfl) fn0
def A5x (cols:Int):Nat→List Bool→Nat→(List Bool×Int)
 | 0,_,_=>([],0)
 | fu1+1,t,k=>(bif (decide ((k:Int)<cols)) then A5x cols fu1 (t.set k true) (k+8) else (t,0))
def B5m (cols:Int):List Bool×Int :=
 (bif ((decide (cols<2))||(decide ((80:Int)<cols))) then (([]:List Bool),2) else A5x cols ((cols - (8:Int)).toNat+1) (List.replicate ((cols).toNat) false) 8)
theorem D3k (cols:Int) (R:List Bool×Int) (hR:B5m cols=R):Con Tryz.prog 148 [iv cols] [] [] ({r:VR // VOk 1 R.1.length r}) (fun x=>.tuple #[.slice (va x.1.q) R.1.length x.1.k,iv R.2]) (fun x=>((vo B0n 4 x.1 R.1)++([]))) (fun x=>[]):=by
 refine zco Tryz.func148 [(0,iv cols)] fun X hX hr hD=>?_
 replace hR:=(B5m.eq_1 ..).symm.trans hR
 refine sr 2 rfl (ip' 2 0 [] (ie (A7 (sr 6 rfl (ip' 3 3 [(8,bv (decide (cols<2)))] ?_)))))
 refine zir 3 0 8 11 (decide ((80:Int)<cols)) (fun g1 g1p=>?_) ?_
 ·refine ip' 3 0 [(11,bv (decide ((80:Int)<cols)))] ?_
  exact A6 (Q2 2 8 11 g1 fn0 (mk [] rfl) rfl rfl rfl rfl rfl)
 refine ie ?_
 refine zjo rfl hR ?_ ?_<;>clear hR<;>intro hR h2 h2p
 ·refine sr 2 rfl (ip' 2 0 [(2,.slice none 0 0),(3,iv 2)] ?_)
  subst hR
  refine ie (B0 ?_)
  exact zer hr hD (A4c rfl (B8 rfl) (B8 rfl)) ⟨VR.nil,VOk.nil⟩ (mc [vo B0n 4 VR.nil ([]:List Bool)] [true] rfl (by first|rfl|(simp only [List.length_set]<;>rfl))) fn0
 refine A9 (nx (sr 3 rfl (ip' 1 2 [(12,iv cols)] (it rfl (C3r (f:=B0n) (l:=(cols).toNat) (c:=(cols).toNat) false E5y E6z.ok (fun _=>rfl) rfl (by exact congrArg (fun z=>some (Value.int .i64 z)) (show cols=(((cols).toNat:Nat):Int) by omega)) (by exact congrArg (fun z=>some (Value.int .i64 z)) (show cols=(((cols).toNat:Nat):Int) by omega)) (by omega) (by first|omega|(simp<;>omega)) (by omega)) fun ⟨r3,hr4⟩=>?_))))
 have:(List.replicate ((cols).toNat) false).length=((cols).toNat):=List.length_replicate
 have:=VOk.le hr4
 have:=VOk.cap hr4
 have:(List.replicate ((cols).toNat) false).length=((cols).toNat):=List.length_replicate
 refine ip' 1 0 [(4,.slice (va r3.q) ((List.replicate ((cols).toNat) false).length) r3.k)] (ie (A7 (sr 1 rfl (ip' 1 0 [(5,iv 8)] (ie (B2 ?_))))))
 refine B7z (fun (fu:Nat) (t:List Bool) (tr:VR) (k:Nat)=>((cols - (k:Int)).toNat<fu∧A5x cols fu t k=R∧VOk 1 t.length tr∧t.length=cols.toNat,[(0,iv cols),(4,.slice (va tr.q) t.length tr.k),(5,iv (k:Int))],((vo B0n 4 tr t)++([])),[],fu)) ((cols - (8:Int)).toNat+1) (List.replicate ((cols).toNat) false) r3 8 ⟨(Nat.lt_succ_self _),hR,hr4,(by exact List.length_replicate)⟩ (mc [vo B0n 4 r3 (List.replicate ((cols).toNat) false)] [true] rfl (by first|rfl|(simp only [List.length_set]<;>rfl))) fn0 ?_
 rintro fu t tr k ⟨hm5,hR,hoktr,ht⟩
 have:=VOk.le hoktr
 obtain ⟨fu1,rfl⟩:∃ m,fu=m+1:=⟨fu - 1,by omega⟩
 replace hR:=(A5x.eq_2 ..).symm.trans hR
 refine A7 (sr 3 rfl (ip' 3 0 [(16,bv (decide ((k:Int)<cols)))] ?_))
 refine ie ?_
 refine zjd rfl hR ?_ ?_<;>clear hR<;>intro hR h6 h6p
 ·refine A9 (nx (A7 (B2 (A3 4 rfl (ip' 2 2 [(19,.slice (va tr.q) t.length tr.k),(20,iv (k:Int))] ?_)))))
  obtain ⟨b7,hb8⟩:=VOk.some hoktr (by omega)
  obtain ⟨q9,k10,j11⟩:=tr
  obtain rfl:q9=some b7:=hb8
  refine ix rfl (C5u E5n rfl rfl rfl k rfl (by omega)) (it rfl (B7h (us:=[bv true]) (u':=true) (c:=B0n) (sz:=1) ty4 (fun _=>rfl) rfl rfl rfl 0 rfl rfl rfl rfl k 0 rfl (gd false (by omega)) rfl rfl) fun _=>?_)
  refine A6 (nx (A3 3 rfl (ip' 1 2 [(17,iv (k:Int))] (ix rfl (B6 rfl rfl rfl rfl (by omega)) (ip' 1 0 [(5,iv ((k:Int)+8))] (A6 ?_))))))
  exact B3p (z1:=(fu1+1)) (z2:=t) (z3:=(⟨some b7,k10,j11⟩:VR)) (z4:=k) fu1 (t.set k true) (⟨some b7,k10,j11⟩:VR) (k+8) ⟨(by omega),hR,(VOk.cast hoktr (by simp)),(by (rw [List.length_set];exact ht))⟩ (Nat.lt_succ_self _) (mc [vo B0n 4 (⟨some b7,k10,j11⟩:VR) (t.set k true)] [true] rfl (by first|rfl|(simp only [List.length_set]<;>rfl))) fn0
 refine J1 (nx (sr 3 rfl (ip' 3 0 [(2,.slice (va tr.q) t.length tr.k),(3,iv 0)] ?_)))
 subst hR
 refine ie (B0 ?_)
 exact zer hr hD (A4c rfl (B8 rfl) (B8 rfl)) ⟨tr,hoktr⟩ (mc [vo B0n 4 tr t] [true] rfl (by first|rfl|(simp only [List.length_set]<;>rfl))) fn0
def A9r (s:Sty):Cel :=
 {Cel.zero with base:=32,sty:=s}
theorem D2b (s:Sty) (R:Cel) (hR:A9r s=R):K5 Tryz.prog 229 [ag (W1 s)] [] (ag (A3l R)):=by
 refine zco Tryz.func229 [(0,ag (W1 s))] fun X hX hr hD=>?_
 replace hR:=(A9r.eq_1 ..).symm.trans hR
 refine sr 2 rfl (B9z 2 0 [] (fun b1 b2=>[(1,pt b1 0),(2,pt b2 0)]) (fun b1 b2=>[bx b2 (A3l Cel.zero) 73,bx b1 (W1 s) 67]) (fun b1 b2=>(ie (sr 3 rfl (zrg 3 0 [1,0] [] [bx b2 (A3l ({Cel.zero with base:=32,sty:=s})) 73,bx b1 (W1 s) 67] ?_)))))
 subst hR
 refine ie (B0 ?_)
 exact zer hr hD (O3 rfl (G3 (us:=A3l ({Cel.zero with base:=32,sty:=s})) E9d rfl 0 rfl rfl rfl)) () (mk [false,false] rfl) fn0
def A8v (x:Int) (y:Int):Int×Int :=
 ((IntKind.u64.wrap ((IntKind.u64.wrap ((IntKind.u64.wrap ((x / 4294967296) * (y / 4294967296)))+((IntKind.u64.wrap ((IntKind.u64.wrap ((x / 4294967296) * (bOp .and .u64 y 4294967295)))+((IntKind.u64.wrap ((bOp .and .u64 x 4294967295) * (bOp .and .u64 y 4294967295))) / 4294967296))) / 4294967296)))+((IntKind.u64.wrap ((bOp .and .u64 (IntKind.u64.wrap ((IntKind.u64.wrap ((x / 4294967296) * (bOp .and .u64 y 4294967295)))+((IntKind.u64.wrap ((bOp .and .u64 x 4294967295) * (bOp .and .u64 y 4294967295))) / 4294967296))) 4294967295)+(IntKind.u64.wrap ((bOp .and .u64 x 4294967295) * (y / 4294967296))))) / 4294967296))),(IntKind.u64.wrap (x * y)))
theorem B8x (x:Int) (y:Int) (R:Int×Int) (hR:A8v x y=R):K5 Tryz.prog 99 [.int .u64 x,.int .u64 y] [] (.tuple #[.int .u64 R.1,.int .u64 R.2]):=by
 refine zco Tryz.func99 [(0,.int .u64 x),(1,.int .u64 y)] fun X hX hr hD=>?_
 replace hR:=(A8v.eq_1 ..).symm.trans hR
 refine sr 2 rfl (ip' 2 0 [] (ie (sr 3 rfl (ip' 3 0 [(6,.int .u64 (bOp .and .u64 x 4294967295))] (ie (sr 3 rfl (ip' 1 2 [(16,.int .u64 x)] ?_)))))))
 refine ix rfl (Q5 (c:=x / 4294967296) rfl rfl rfl (by decide) (by simp [Int.fdiv_eq_ediv_of_nonneg,IntKind.bits])) (ip' 1 0 [(7,.int .u64 (x / 4294967296))] (ie (sr 3 rfl (ip' 3 0 [(8,.int .u64 (bOp .and .u64 y 4294967295))] (ie (sr 3 rfl (ip' 1 2 [(20,.int .u64 y)] ?_)))))))
 refine ix rfl (Q5 (c:=y / 4294967296) rfl rfl rfl (by decide) (by simp [Int.fdiv_eq_ediv_of_nonneg,IntKind.bits])) (ip' 1 0 [(9,.int .u64 (y / 4294967296))] (ie (sr 4 rfl (ip' 4 0 [(10,.int .u64 (IntKind.u64.wrap ((bOp .and .u64 x 4294967295) * (bOp .and .u64 y 4294967295))))] (ie (sr 7 rfl (ip' 4 3 [(27,.int .u64 (IntKind.u64.wrap ((x / 4294967296) * (bOp .and .u64 y 4294967295)))),(28,.int .u64 (IntKind.u64.wrap ((bOp .and .u64 x 4294967295) * (bOp .and .u64 y 4294967295))))] ?_)))))))
 refine ix rfl (Q5 (c:=(IntKind.u64.wrap ((bOp .and .u64 x 4294967295) * (bOp .and .u64 y 4294967295))) / 4294967296) rfl rfl rfl (by decide) (by simp [Int.fdiv_eq_ediv_of_nonneg,IntKind.bits])) (ip' 2 0 [(11,.int .u64 (IntKind.u64.wrap ((IntKind.u64.wrap ((x / 4294967296) * (bOp .and .u64 y 4294967295)))+((IntKind.u64.wrap ((bOp .and .u64 x 4294967295) * (bOp .and .u64 y 4294967295))) / 4294967296))))] (ie (sr 3 rfl (ip' 3 0 [(12,.int .u64 (bOp .and .u64 (IntKind.u64.wrap ((IntKind.u64.wrap ((x / 4294967296) * (bOp .and .u64 y 4294967295)))+((IntKind.u64.wrap ((bOp .and .u64 x 4294967295) * (bOp .and .u64 y 4294967295))) / 4294967296))) 4294967295))] (ie (sr 3 rfl (ip' 1 2 [(33,.int .u64 (IntKind.u64.wrap ((IntKind.u64.wrap ((x / 4294967296) * (bOp .and .u64 y 4294967295)))+((IntKind.u64.wrap ((bOp .and .u64 x 4294967295) * (bOp .and .u64 y 4294967295))) / 4294967296))))] ?_)))))))
 refine ix rfl (Q5 (c:=(IntKind.u64.wrap ((IntKind.u64.wrap ((x / 4294967296) * (bOp .and .u64 y 4294967295)))+((IntKind.u64.wrap ((bOp .and .u64 x 4294967295) * (bOp .and .u64 y 4294967295))) / 4294967296))) / 4294967296) rfl rfl rfl (by decide) (by simp [Int.fdiv_eq_ediv_of_nonneg,IntKind.bits])) (ip' 1 0 [(13,.int .u64 ((IntKind.u64.wrap ((IntKind.u64.wrap ((x / 4294967296) * (bOp .and .u64 y 4294967295)))+((IntKind.u64.wrap ((bOp .and .u64 x 4294967295) * (bOp .and .u64 y 4294967295))) / 4294967296))) / 4294967296))] (ie (sr 6 rfl (ip' 6 0 [(12,.int .u64 (IntKind.u64.wrap ((bOp .and .u64 (IntKind.u64.wrap ((IntKind.u64.wrap ((x / 4294967296) * (bOp .and .u64 y 4294967295)))+((IntKind.u64.wrap ((bOp .and .u64 x 4294967295) * (bOp .and .u64 y 4294967295))) / 4294967296))) 4294967295)+(IntKind.u64.wrap ((bOp .and .u64 x 4294967295) * (y / 4294967296))))))] (ie (sr 9 rfl (ip' 6 3 [(44,.int .u64 (IntKind.u64.wrap ((IntKind.u64.wrap ((x / 4294967296) * (y / 4294967296)))+((IntKind.u64.wrap ((IntKind.u64.wrap ((x / 4294967296) * (bOp .and .u64 y 4294967295)))+((IntKind.u64.wrap ((bOp .and .u64 x 4294967295) * (bOp .and .u64 y 4294967295))) / 4294967296))) / 4294967296)))),(45,.int .u64 (IntKind.u64.wrap ((bOp .and .u64 (IntKind.u64.wrap ((IntKind.u64.wrap ((x / 4294967296) * (bOp .and .u64 y 4294967295)))+((IntKind.u64.wrap ((bOp .and .u64 x 4294967295) * (bOp .and .u64 y 4294967295))) / 4294967296))) 4294967295)+(IntKind.u64.wrap ((bOp .and .u64 x 4294967295) * (y / 4294967296))))))] ?_)))))))
 refine ix rfl (Q5 (c:=(IntKind.u64.wrap ((bOp .and .u64 (IntKind.u64.wrap ((IntKind.u64.wrap ((x / 4294967296) * (bOp .and .u64 y 4294967295)))+((IntKind.u64.wrap ((bOp .and .u64 x 4294967295) * (bOp .and .u64 y 4294967295))) / 4294967296))) 4294967295)+(IntKind.u64.wrap ((bOp .and .u64 x 4294967295) * (y / 4294967296))))) / 4294967296) rfl rfl rfl (by decide) (by simp [Int.fdiv_eq_ediv_of_nonneg,IntKind.bits])) (ip' 2 0 [(4,.int .u64 (IntKind.u64.wrap ((IntKind.u64.wrap ((IntKind.u64.wrap ((x / 4294967296) * (y / 4294967296)))+((IntKind.u64.wrap ((IntKind.u64.wrap ((x / 4294967296) * (bOp .and .u64 y 4294967295)))+((IntKind.u64.wrap ((bOp .and .u64 x 4294967295) * (bOp .and .u64 y 4294967295))) / 4294967296))) / 4294967296)))+((IntKind.u64.wrap ((bOp .and .u64 (IntKind.u64.wrap ((IntKind.u64.wrap ((x / 4294967296) * (bOp .and .u64 y 4294967295)))+((IntKind.u64.wrap ((bOp .and .u64 x 4294967295) * (bOp .and .u64 y 4294967295))) / 4294967296))) 4294967295)+(IntKind.u64.wrap ((bOp .and .u64 x 4294967295) * (y / 4294967296))))) / 4294967296))))] (ie (sr 4 rfl (ip' 4 0 [(5,.int .u64 (IntKind.u64.wrap (x * y)))] ?_))))
 subst hR
 refine ie (B0 ?_)
 exact A9j hr hD
def A4v (x:Int) (y:Int):Int×Int :=
 (B5 (A8v x y) fun (y2:Int×Int)=>(y2.1,y2.2))
theorem wr6 {x:Int} (h:-1000000≤x∧x≤1000000):IntKind.i64.wrap x=x:=W6 (by show (-9223372036854775808:Int)≤_;omega) (by show _≤(9223372036854775807:Int);omega)
theorem D8o:∀ c<81,A4v 1 ((c:Nat):Int)=(0,((c:Nat):Int)):=by decide +kernel
theorem E1v (n:Nat) (c:Int) (hn:n=1) (hc:1≤c∧c≤80):A4v (IntKind.u64.wrap (n:Int)) (IntKind.u64.wrap c)=(0,c):=by
 obtain ⟨m,rfl⟩:∃ m:Nat,c=m:=⟨c.toNat,by omega⟩
 subst hn
 rw [W6 (k:=.u64) (by show (0:Int)≤_;omega) (by show _≤(18446744073709551615:Int);omega),W6 (k:=.u64) (by show (0:Int)≤_;omega) (by show _≤(18446744073709551615:Int);omega)]
 exact D8o m (by omega)
theorem C2q (x:Int) (y:Int) (R:Int×Int) (hR:A4v x y=R):K5 Tryz.prog 45 [.int .u64 x,.int .u64 y] [] (.tuple #[.int .u64 R.1,.int .u64 R.2]):=by
 refine zco Tryz.func45 [(0,.int .u64 x),(1,.int .u64 y)] fun X hX hr hD=>?_
 replace hR:=(A4v.eq_1 ..).symm.trans hR
 refine sr 2 rfl (ip' 2 0 [] (ie (A7 (A7y rfl (A9 (nx (sr 8 rfl (ip' 2 6 [(23,.int .u64 x),(24,.int .u64 y)] ?_))))))))
 have hQ:=C9 hR;clear hR;obtain ⟨y2,hy2,hR⟩:=hQ
 refine zca (B8x x y y2 hy2) fn0 (ip' 5 0 [(8,.int .u64 y2.1),(9,.int .u64 y2.2)] (ie (sr 4 rfl (ip' 4 0 [(4,.int .u64 y2.1),(5,.int .u64 y2.2)] ?_))))
 subst hR
 refine ie (B0 ?_)
 exact A9j hr hD
def O2:Nat→List Cel→Nat→List Cel
 | 0,_,_=>[]
 | fu1+1,newslice,n=>(bif (decide ((n:Int)<(newslice.length:Int))) then O2 fu1 (newslice.take n++(newslice.take (min n (newslice.length - n):Nat)++newslice.drop (n+(min n (newslice.length - n):Nat)))) (n+(min n (newslice.length - n):Nat)) else newslice)
def W5 (x:List Cel) (count:Int):List Cel :=
 (B5 (A4v (IntKind.u64.wrap (x.length:Int)) (IntKind.u64.wrap count)) fun (y0:Int×Int)=>O2 (((x.take (List.replicate ((IntKind.i64.wrap y0.2).toNat) Cel.zero).length++(List.replicate ((IntKind.i64.wrap y0.2).toNat) Cel.zero).drop x.length).length - (min x.length (List.replicate ((IntKind.i64.wrap y0.2).toNat) Cel.zero).length:Nat))+1) (x.take (List.replicate ((IntKind.i64.wrap y0.2).toNat) Cel.zero).length++(List.replicate ((IntKind.i64.wrap y0.2).toNat) Cel.zero).drop x.length) (min x.length (List.replicate ((IntKind.i64.wrap y0.2).toNat) Cel.zero).length:Nat))
theorem A6g (x:List Cel) (count:Int) (xq:Option Addr) (xk:Nat) (hlx:x.length≤9223372036854775807) (hcx:x.length≤xk) (hcn:1≤count∧count≤80) (hx1:x.length=1) (R:List Cel) (hR:W5 x count=R):Con Tryz.prog 228 [.slice xq x.length xk,iv count] [] [sl A3l xq x] ({r:VR // VOk 12 R.length r}) (fun x=>.slice (va x.1.q) R.length x.1.k) (fun x=>((vo A3l 73 x.1 R)++([]))) (fun x=>[]):=by
 refine zco Tryz.func228 [(0,.slice xq x.length xk),(1,iv count)] fun X hX hr hD=>?_
 replace hR:=(W5.eq_1 ..).symm.trans hR
 refine sr 1 rfl (ip' 1 0 [] (ie (A7 (sr 2 rfl (ip' 2 0 [(10,bv (decide (count<0)))] ?_)))))
 refine ie (I9 rfl (fun h1=>?_) (fun h1=>?_))
 ·have h1p:count<0:=by simpa using h1
  exfalso;omega
 have h1p:¬ (count<0):=by simpa using h1
 refine A9 (nx (sr 11 rfl (ip' 5 6 [(15,.int .u64 (IntKind.u64.wrap (x.length:Int))),(17,.int .u64 (IntKind.u64.wrap count))] ?_)))
 have hQ:=C9 hR;clear hR;obtain ⟨y0,hy0,hR⟩:=hQ
 refine zca (C2q (IntKind.u64.wrap (x.length:Int)) (IntKind.u64.wrap count) y0 hy0) fn0 ?_
 have:=E1v x.length count hx1 hcn;try rw [hy0] at this
 have hm1:y0.1=0:=by rw [this]
 have hm2:IntKind.i64.wrap y0.2=count:=by rw [this];exact wr6 (by show -1000000≤count∧count≤1000000;omega)
 have hm3:y0.2=count:=by rw [this]
 refine ip' 5 0 [(5,.int .u64 y0.1),(6,.int .u64 y0.2)] (ie (A7 (sr 6 rfl (ip' 3 3 [(23,bv (decide ((0:Int)<y0.1)))] ?_))))
 refine zir 3 0 23 26 (decide ((9223372036854775807:Int)<y0.2)) (fun g2 g2p=>?_) ?_
 ·refine ip' 3 0 [(26,bv (decide ((9223372036854775807:Int)<y0.2)))] ?_
  exact zai 2 23 26 g2
 refine ie (I9 rfl (fun h3=>?_) (fun h3=>?_))
 ·have h3p:((0:Int)<y0.1)∨((9223372036854775807:Int)<y0.2):=by simpa using h3
  exfalso;simp only [Bool.or_eq_true,decide_eq_true_eq] at h3;omega
 have h3p:¬ (((0:Int)<y0.1)∨((9223372036854775807:Int)<y0.2)):=by simpa using h3
 refine A9 (nx (sr 4 rfl (ip' 2 2 [(29,iv (IntKind.i64.wrap y0.2))] (it rfl (C3r (f:=A3l) (l:=(IntKind.i64.wrap y0.2).toNat) (c:=(IntKind.i64.wrap y0.2).toNat) Cel.zero E7h E6h.ok (fun _=>rfl) rfl (by exact congrArg (fun z=>some (Value.int .i64 z)) (show (IntKind.i64.wrap y0.2)=(((IntKind.i64.wrap y0.2).toNat:Nat):Int) by omega)) (by exact congrArg (fun z=>some (Value.int .i64 z)) (show (IntKind.i64.wrap y0.2)=(((IntKind.i64.wrap y0.2).toNat:Nat):Int) by omega)) (by omega) (by first|omega|(simp<;>omega)) (by omega)) fun ⟨r4,hr5⟩=>?_))))
 have:(List.replicate ((IntKind.i64.wrap y0.2).toNat) Cel.zero).length=((IntKind.i64.wrap y0.2).toNat):=List.length_replicate
 have:=VOk.le hr5
 have:=VOk.cap hr5
 have:(List.replicate ((IntKind.i64.wrap y0.2).toNat) Cel.zero).length=((IntKind.i64.wrap y0.2).toNat):=List.length_replicate
 refine ip' 1 0 [(7,.slice (va r4.q) ((List.replicate ((IntKind.i64.wrap y0.2).toNat) Cel.zero).length) r4.k)] (ie (sr 4 rfl (ip' 2 2 [(31,.slice (va r4.q) ((List.replicate ((IntKind.i64.wrap y0.2).toNat) Cel.zero).length) r4.k),(32,.slice xq x.length xk)] ?_)))
 have hok6:VOk 12 (x.take (List.replicate ((IntKind.i64.wrap y0.2).toNat) Cel.zero).length++(List.replicate ((IntKind.i64.wrap y0.2).toNat) Cel.zero).drop x.length).length r4:=by rw [show (x.take (List.replicate ((IntKind.i64.wrap y0.2).toNat) Cel.zero).length++(List.replicate ((IntKind.i64.wrap y0.2).toNat) Cel.zero).drop x.length).length=(List.replicate ((IntKind.i64.wrap y0.2).toNat) Cel.zero).length by simp only [List.length_append,List.length_take,List.length_drop];omega];exact hr5
 refine it rfl (D6z (f:=A3l) (r:=r4) (xs:=(List.replicate ((IntKind.i64.wrap y0.2).toNat) Cel.zero)) (ys:=x) (pre:=[]) (post:=[]) D0d (fun _=>rfl) (fun _=>rfl) rfl rfl rfl rfl rfl rfl rfl rfl (A1 0 rfl) hr5) fun _=>?_
 refine ip' 1 0 [(8,iv ((min x.length (List.replicate ((IntKind.i64.wrap y0.2).toNat) Cel.zero).length:Nat):Int))] (ie (A7 (B2 ?_)))
 refine B7z (fun (fu:Nat) (newslice:List Cel) (newslicer:VR) (n:Nat)=>((newslice.length - n)<fu∧O2 fu newslice n=R∧VOk 12 newslice.length newslicer∧(newslice.length=count.toNat∧1≤n),[(7,.slice (va newslicer.q) newslice.length newslicer.k),(8,iv (n:Int))],((vo A3l 73 newslicer newslice)++([])),[sl A3l xq x],fu)) (((x.take (List.replicate ((IntKind.i64.wrap y0.2).toNat) Cel.zero).length++(List.replicate ((IntKind.i64.wrap y0.2).toNat) Cel.zero).drop x.length).length - (min x.length (List.replicate ((IntKind.i64.wrap y0.2).toNat) Cel.zero).length:Nat))+1) (x.take (List.replicate ((IntKind.i64.wrap y0.2).toNat) Cel.zero).length++(List.replicate ((IntKind.i64.wrap y0.2).toNat) Cel.zero).drop x.length) r4 (min x.length (List.replicate ((IntKind.i64.wrap y0.2).toNat) Cel.zero).length:Nat) ⟨(Nat.lt_succ_self _),hR,hok6,(by (constructor<;>first|omega|(simp only [List.length_append,List.length_take,List.length_drop,List.length_replicate]<;>omega)))⟩ (mc [vo A3l 73 r4 (x.take (List.replicate ((IntKind.i64.wrap y0.2).toNat) Cel.zero).length++(List.replicate ((IntKind.i64.wrap y0.2).toNat) Cel.zero).drop x.length)] [true] rfl (by first|rfl|(simp only [List.length_set]<;>rfl))) A0.refl (hE:=⟨(show some (Value.slice (va r4.q) ((List.replicate ((IntKind.i64.wrap y0.2).toNat) Cel.zero).length) r4.k)=some (Value.slice (va r4.q) ((x.take (List.replicate ((IntKind.i64.wrap y0.2).toNat) Cel.zero).length++(List.replicate ((IntKind.i64.wrap y0.2).toNat) Cel.zero).drop x.length).length) r4.k) from congrArg (fun z=>some (Value.slice (va r4.q) z r4.k)) (show (List.replicate ((IntKind.i64.wrap y0.2).toNat) Cel.zero).length=(x.take (List.replicate ((IntKind.i64.wrap y0.2).toNat) Cel.zero).length++(List.replicate ((IntKind.i64.wrap y0.2).toNat) Cel.zero).drop x.length).length by first|rfl|omega|(simp<;>omega))),(by first|rfl|exact congrArg (fun z=>some (Value.slice _ z _)) (by first|omega|(simp<;>omega))),trivial⟩) ?_
 rintro fu newslice newslicer n ⟨hm7,hR,hoknewslicer,hn⟩
 have:=VOk.le hoknewslicer
 obtain ⟨fu1,rfl⟩:∃ m,fu=m+1:=⟨fu - 1,by omega⟩
 replace hR:=(O2.eq_2 ..).symm.trans hR
 refine A7 (sr 4 rfl (ip' 4 0 [(37,bv (decide ((n:Int)<(newslice.length:Int))))] ?_))
 refine ie ?_
 refine zjd rfl hR ?_ ?_<;>clear hR<;>intro hR h8 h8p
 ·refine A9 (nx (B2 ?_))
  refine sh' 10 [(7,vo A3l 73 newslicer newslice)] [sl A3l xq x] ((vo A3l 73 newslicer newslice)++([])) (zml 10 0) (by kernel_rfl) rfl (by kernel_rfl) (by kernel_rfl) (by kernel_rfl) (mc [vo A3l 73 newslicer newslice] [true] rfl (by first|rfl|(simp only [List.length_set]<;>rfl))) A0.refl ?_
  refine zhp [0,1,2,4,5] 5 (zml 10 55) [(38,iv (n:Int)),(39,.slice (va newslicer.q) newslice.length newslicer.k),(40,iv (n:Int)),(42,.slice (va newslicer.q) newslice.length newslicer.k),(43,iv (n:Int))] ?_
  have:=VOk.cap hoknewslicer
  refine zhk 3 (zml 10 63) rfl (B2z (n':=(newslice.length - n)) D0d rfl rfl n newslice.length newslicer.k (A3k rfl rfl) A5n A5n (by omega) (by omega) (Nat.le_refl _) rfl rfl) ?_
  have:=VOk.cap hoknewslicer
  refine zhk 6 (zml 10 127) rfl (C4l (n':=n) D0d rfl rfl n newslicer.k (A3k rfl rfl) A5n (by omega) (Nat.le_refl _) rfl rfl) ?_
  have hok9:VOk 12 (newslice.take n++(newslice.take (min n (newslice.length - n):Nat)++newslice.drop (n+(min n (newslice.length - n):Nat)))).length newslicer:=by rw [show (newslice.take n++(newslice.take (min n (newslice.length - n):Nat)++newslice.drop (n+(min n (newslice.length - n):Nat)))).length=newslice.length by simp only [List.length_append,List.length_take,List.length_drop];omega];exact hoknewslicer
  refine zho 7 [] (zml 10 255) rfl (D7d (f:=A3l) (r:=newslicer) (xs:=newslice) (l:=n) (h:=n) (pre:=[]) (post:=[]) D0d (fun _=>rfl) (fun _=>rfl) rfl rfl rfl rfl rfl rfl rfl hoknewslicer (by omega) (by omega)) (fun _=>(List.nil_sublist _)) (fun _=>A0.refl) fun _=>?_
  refine zhk 8 (zml 10 511) rfl (B6 rfl rfl rfl rfl (by omega)) ?_
  refine zhp [9] 0 (zml 10 1023) [(8,iv ((n:Int)+((min n (newslice.length - n):Nat):Int)))] ?_
  refine C2y (by kernel_rfl) ?_
  exact B3p (z1:=(fu1+1)) (z2:=newslice) (z3:=newslicer) (z4:=n) fu1 (newslice.take n++(newslice.take (min n (newslice.length - n):Nat)++newslice.drop (n+(min n (newslice.length - n):Nat)))) newslicer (n+(min n (newslice.length - n):Nat)) ⟨(by simp only [List.length_append,List.length_take,List.length_drop,List.length_replicate];omega),hR,hok9,(by (constructor<;>first|omega|(simp only [List.length_append,List.length_take,List.length_drop,List.length_replicate]<;>omega)))⟩ (Nat.lt_succ_self _) (mc [vo A3l 73 newslicer (newslice.take n++(newslice.take (min n (newslice.length - n):Nat)++newslice.drop (n+(min n (newslice.length - n):Nat))))] [true] rfl (by first|rfl|(simp only [List.length_set]<;>rfl))) A0.refl (hE:=⟨(show some (Value.slice (va newslicer.q) newslice.length newslicer.k)=some (Value.slice (va newslicer.q) ((newslice.take n++(newslice.take (min n (newslice.length - n):Nat)++newslice.drop (n+(min n (newslice.length - n):Nat)))).length) newslicer.k) from congrArg (fun z=>some (Value.slice (va newslicer.q) z newslicer.k)) (show newslice.length=(newslice.take n++(newslice.take (min n (newslice.length - n):Nat)++newslice.drop (n+(min n (newslice.length - n):Nat)))).length by first|rfl|omega|(simp<;>omega))),(show some (iv ((n:Int)+((min n (newslice.length - n):Nat):Int)))=some (iv ((n+(min n (newslice.length - n):Nat)):Int)) by first|rfl|exact congrArg (fun z=>some (Value.int .i64 z)) (by first|rfl|omega|(simp<;>omega))),trivial⟩)
 refine J1 (nx (sr 2 rfl (ip' 2 0 [(4,.slice (va newslicer.q) newslice.length newslicer.k)] ?_)))
 subst hR
 refine ie (B0 ?_)
 exact zer hr hD (O3 rfl (B8 rfl)) ⟨newslicer,hoknewslicer⟩ (mc [vo A3l 73 newslicer newslice] [true] rfl (by first|rfl|(simp only [List.length_set]<;>rfl))) fn0
def C9b (cols:Int) (s:Sty):List Cel×Bool×Int :=
 (bif ((decide (cols<2))||(decide ((80:Int)<cols))) then (([]:List Cel),false,2) else (bif (!decide ((U8 s)=0)) then (([]:List Cel),false,(U8 s)) else (B5 (W5 ([(A9r s)]:List Cel) cols) fun (y1:List Cel)=>(y1,false,0))))
theorem D7s (cols:Int) (s:Sty) (R:List Cel×Bool×Int) (hR:C9b cols s=R):Con Tryz.prog 215 [iv cols,ag (W1 s)] [] [] ({r:VR // VOk 12 R.1.length r}) (fun x=>.tuple #[ag [.slice (va x.1.q) R.1.length x.1.k,bv R.2.1],iv R.2.2]) (fun x=>((vo A3l 73 x.1 R.1)++([]))) (fun x=>[]):=by
 refine zco Tryz.func215 [(0,iv cols),(1,ag (W1 s))] fun X hX hr hD=>?_
 replace hR:=(C9b.eq_1 ..).symm.trans hR
 refine sr 3 rfl (B9z 3 0 [] (fun b1 b2=>[(3,pt b1 0),(4,pt b2 0)]) (fun b1 b2=>[bx b2 [.slice none 0 0,bv false] 115,bx b1 (W1 s) 67]) (fun b1 b2=>(ie (A7 (sr 6 rfl (ip' 3 3 [(9,bv (decide (cols<2)))] ?_))))))
 refine zir 3 0 9 12 (decide ((80:Int)<cols)) (fun g3 g3p=>?_) ?_
 ·refine ip' 3 0 [(12,bv (decide ((80:Int)<cols)))] ?_
  exact A6 (Q2 2 9 12 g3 fn0 (mk [true,true] rfl) rfl rfl rfl rfl rfl)
 refine ie ?_
 refine zjo rfl hR ?_ ?_<;>clear hR<;>intro hR h4 h4p
 ·refine sr 3 rfl (zrg 3 0 [0] [(5,iv 2)] [bx b2 [.slice none 0 0,bv false] 115,bx b1 (W1 s) 67] ?_)
  subst hR
  refine ie (B0 ?_)
  exact zer hr hD (A4c rfl (G3 (us:=[.slice none 0 0,bv false]) D5w rfl 0 rfl rfl rfl) (B8 rfl)) ⟨VR.nil,VOk.nil⟩ (mc [[bx b2 [.slice none 0 0,bv false] 115],[bx b1 (W1 s) 67],vo A3l 73 VR.nil ([]:List Cel)] [false,false,true] rfl (by first|rfl|(simp only [List.length_set]<;>rfl))) fn0
 refine A9 (nx (A7 (sr 3 rfl (zrl 1 2 [1] [(14,ag (W1 s))] (zca (B6z s _ rfl) fn0 (ip' 1 0 [(6,iv (U8 s))] (ie (sr 2 rfl (ip' 2 0 [(17,bv (!decide ((U8 s)=0)))] (ie ?_))))))))))
 refine zjn rfl hR ?_ ?_<;>clear hR<;>intro hR h5 h5p
 ·refine sr 4 rfl (zrg 4 0 [0] [(5,iv (U8 s))] [bx b2 [.slice none 0 0,bv false] 115,bx b1 (W1 s) 67] ?_)
  subst hR
  refine ie (B0 ?_)
  exact zer hr hD (A4c rfl (G3 (us:=[.slice none 0 0,bv false]) D5w rfl 0 rfl rfl rfl) (B8 rfl)) ⟨VR.nil,VOk.nil⟩ (mc [[bx b2 [.slice none 0 0,bv false] 115],[bx b1 (W1 s) 67],vo A3l 73 VR.nil ([]:List Cel)] [false,false,true] rfl (by first|rfl|(simp only [List.length_set]<;>rfl))) fn0
 refine A9 (nx (sr 8 rfl (zrl 1 7 [1] [(20,ag (W1 s))] (zca (D2b s _ rfl) fn0 (it rfl (B3 (c:=A3l) (xs:=([(A9r s)]:List Cel)) D0d rfl rfl rfl (by kernel_rfl)) fun b6=>?_)))))
 have:([(A9r s)]:List Cel).length=1:=rfl
 refine ip' 1 4 [(23,iv cols)] ?_
 have hQ:=C9 hR;clear hR;obtain ⟨y1,hy1,hR⟩:=hQ
 refine it rfl (Q6 (L2:=[bx b2 [.slice none 0 0,bv false] 115,bx b1 (W1 s) 67]) (A6g ([(A9r s)]:List Cel) cols (some ⟨b6,0,none⟩) 1 (by first|omega|(simp<;>omega)|(dsimp only;omega)|decide) (by first|omega|(simp<;>omega)|(dsimp only;omega)|decide) (by omega) (by first|rfl|omega) y1 hy1) rfl rfl rfl rfl rfl A0.refl (List.Perm.refl _) (fun ⟨r7,hk8⟩=>(bx b2 [.slice none 0 0,bv false] 115::bx b1 (W1 s) 67::(vo A3l 73 r7 y1)++([]))) (fun ⟨r7,hk8⟩=>L9 [vo A3l 73 r7 y1,[bx b2 [.slice none 0 0,bv false] 115],[bx b1 (W1 s) 67]] [1,2,0] 3 rfl (by decide) (by first|rfl|simp) [[bx b2 [.slice none 0 0,bv false] 115],[bx b1 (W1 s) 67],vo A3l 73 r7 y1] rfl (by first|rfl|simp))) fun ⟨r7,hk8⟩=>?_
 have:=VOk.le hk8
 have:=VOk.cap hk8
 refine zrg 3 0 [0] [(5,iv 0)] (bx b2 [.slice (va r7.q) y1.length r7.k,bv false] 115::bx b1 (W1 s) 67::(vo A3l 73 r7 y1)++([])) ?_
 subst hR
 refine ie (B0 ?_)
 exact zer hr hD (A4c rfl (G3 (us:=[.slice (va r7.q) y1.length r7.k,bv false]) D5w rfl 0 rfl rfl rfl) (B8 rfl)) ⟨r7,hk8⟩ (mc [[bx b2 [.slice (va r7.q) y1.length r7.k,bv false] 115],[bx b1 (W1 s) 67],vo A3l 73 r7 y1] [false,false,true] rfl (by first|rfl|(simp only [List.length_set]<;>rfl))) fn0
end Go.Proofs.YtanighkpfmgnbaaGreatDoor
set_option linter.unusedVariables false
set_option linter.unusedSimpArgs false
set_option linter.unnecessarySimpa false
set_option maxRecDepth 100000
namespace Go.Proofs.YtanighkpfmgnbaaGreatDoor
open Go Go.Fen
theorem E6o:ApTy Tryz.prog 154 115 2 32:=⟨by kernel_rfl,by kernel_rfl,rfl⟩
theorem E5s:SlTy Tryz.prog 154 115 2:=⟨by kernel_rfl,by kernel_rfl⟩
theorem E0u:Ty Tryz.prog 164 80 true:=⟨by kernel_rfl⟩
theorem E1n:Zero Tryz.prog 115 [.slice none 0 0,bv false]:=⟨by kernel_rfl⟩
def A6r (wide:Int) (many:Int) (s:Sty):Nat→Nat→Unit
 | 0,_=>()
 | fu1+1,t13=>(bif (decide ((t13:Int)<((List.replicate ((many).toNat) (⟨⟨none,0,0⟩,false⟩:Rwq)).length:Int))) then (B5 (C9b wide s) fun (y1:List Cel×Bool×Int)=>A6r wide many s fu1 (t13+1)) else ())
def C1p (wide:Int) (many:Int) (s:Sty):Unit :=
 A6r wide many s (((List.replicate ((many).toNat) (⟨⟨none,0,0⟩,false⟩:Rwq)).length - 0)+1) 0
theorem C6r (wide:Int) (many:Int) (s:Sty) (hmn:1≤many∧many≤40) (hwd:2≤wide∧wide≤80) (R:Unit) (hR:C1p wide many s=R):Con Tryz.prog 198 [iv wide,iv many,ag (W1 s)] [] [] ({t:VR×List Rwq // VOk 2 t.2.length t.1}) (fun x=>.slice (va x.1.1.q) x.1.2.length x.1.1.k) (fun x=>((vo A2g 115 x.1.1 x.1.2)++([]))) (fun x=>[]):=by
 refine zco Tryz.func198 [(0,iv wide),(1,iv many),(2,ag (W1 s))] fun X hX hr hD=>?_
 replace hR:=(C1p.eq_1 ..).symm.trans hR
 refine sr 2 rfl (P1 2 0 [] (fun b1=>[(5,pt b1 0)]) (fun b1=>[bx b1 (W1 s) 67]) (fun b1=>(ie (sr 3 rfl (ip' 1 2 [(9,iv many)] (it rfl (C3r (f:=A2g) (l:=(many).toNat) (c:=(many).toNat) (⟨⟨none,0,0⟩,false⟩:Rwq) E6o E1n.ok (fun _=>rfl) rfl (by exact congrArg (fun z=>some (Value.int .i64 z)) (show many=(((many).toNat:Nat):Int) by omega)) (by exact congrArg (fun z=>some (Value.int .i64 z)) (show many=(((many).toNat:Nat):Int) by omega)) (by omega) (by first|omega|(simp<;>omega)) (by omega)) fun ⟨r2,hr3⟩=>?_))))))
 have:(List.replicate ((many).toNat) (⟨⟨none,0,0⟩,false⟩:Rwq)).length=((many).toNat):=List.length_replicate
 have:=VOk.le hr3
 have:=VOk.cap hr3
 have:(List.replicate ((many).toNat) (⟨⟨none,0,0⟩,false⟩:Rwq)).length=((many).toNat):=List.length_replicate
 refine ip' 1 0 [(7,.slice (va r2.q) ((List.replicate ((many).toNat) (⟨⟨none,0,0⟩,false⟩:Rwq)).length) r2.k)] (ie (A7 (sr 3 rfl (ip' 3 0 [(12,iv ((List.replicate ((many).toNat) (⟨⟨none,0,0⟩,false⟩:Rwq)).length:Int)),(13,iv 0)] (ie (B2 ?_))))))
 refine B7z (fun (fu:Nat) (lr:VR) (lqs:List Rwq) (t13:Nat)=>(((List.replicate ((many).toNat) (⟨⟨none,0,0⟩,false⟩:Rwq)).length - t13)<fu∧A6r wide many s fu t13=R∧VOk 2 lqs.length lr∧lqs.length=(many).toNat,[(0,iv wide),(5,pt b1 0),(7,.slice (va lr.q) lqs.length lr.k),(12,iv ((List.replicate ((many).toNat) (⟨⟨none,0,0⟩,false⟩:Rwq)).length:Int)),(13,iv (t13:Int))],(bx b1 (W1 s) 67::(vo A2g 115 lr lqs)++([])),[],fu)) (((List.replicate ((many).toNat) (⟨⟨none,0,0⟩,false⟩:Rwq)).length - 0)+1) r2 (List.replicate ((many).toNat) (⟨⟨none,0,0⟩,false⟩:Rwq)) 0 ⟨(Nat.lt_succ_self _),hR,hr3,List.length_replicate⟩ (mc [[bx b1 (W1 s) 67],vo A2g 115 r2 (List.replicate ((many).toNat) (⟨⟨none,0,0⟩,false⟩:Rwq))] [true,true] rfl (by first|rfl|(simp only [List.length_set]<;>rfl))) fn0 ?_
 rintro fu lr lqs t13 ⟨hm4,hR,hoklr,hlnlr⟩
 have:=VOk.le hoklr
 obtain ⟨fu1,rfl⟩:∃ m,fu=m+1:=⟨fu - 1,by omega⟩
 replace hR:=(A6r.eq_2 ..).symm.trans hR
 refine sr 1 rfl (ip' 1 0 [(14,bv (decide ((t13:Int)<((List.replicate ((many).toNat) (⟨⟨none,0,0⟩,false⟩:Rwq)).length:Int))))] (ie (A7 ?_)))
 refine zjd rfl hR ?_ ?_<;>clear hR<;>intro hR h5 h5p
 ·refine A9 (nx (A7 (B2 (sr 2 rfl (ip' 2 0 [(8,iv (t13:Int))] (ie (A3 10 rfl (zrl 4 6 [0] [(17,.slice (va lr.q) lqs.length lr.k),(18,iv (t13:Int)),(19,iv wide),(20,ag (W1 s))] ?_))))))))
  have hQ:=C9 hR;clear hR;obtain ⟨y1,hy1,hR⟩:=hQ
  refine it rfl (Q6 (L2:=(bx b1 (W1 s) 67::(vo A2g 115 lr lqs)++([]))) (D7s wide s y1 hy1) rfl rfl rfl rfl rfl fn0 (List.Perm.refl _) (fun ⟨r6,hk7⟩=>(bx b1 (W1 s) 67::(vo A3l 73 r6 y1.1)++((vo A2g 115 lr lqs)++([])))) (fun ⟨r6,hk7⟩=>L9 [vo A3l 73 r6 y1.1,[bx b1 (W1 s) 67],vo A2g 115 lr lqs] [1,0,2] 3 rfl (by decide) (by first|rfl|simp) [[bx b1 (W1 s) 67],vo A3l 73 r6 y1.1,vo A2g 115 lr lqs] rfl (by first|rfl|simp))) fun ⟨r6,hk7⟩=>?_
  have:=VOk.le hk7
  have:=VOk.cap hk7
  refine ip' 3 2 [(22,ag [.slice (va r6.q) y1.1.length r6.k,bv y1.2.1])] ?_
  obtain ⟨b8,hb9⟩:=VOk.some hoklr (by omega)
  obtain ⟨q10,k11,j12⟩:=lr
  obtain rfl:q10=some b8:=hb9
  refine ix rfl (C5u E5s rfl rfl rfl t13 rfl (by omega)) ?_
  have:=VOk.cap hk7
  have:=VOk.le hk7
  refine A4o [bx b1 (W1 s) 67] ((vo A2g 115 (⟨some b8,k11,j12⟩:VR) lqs)++([])) (T:=73) (c:=A3l) (r:=r6) (xs:=y1.1) hk7 (by first|rfl|simp only [List.flatten_cons,List.flatten_nil,List.cons_append,List.append_assoc,List.nil_append,List.append_nil]) ?_
  have hln13:(lqs.set t13 (⟨⟨va r6.q,y1.1.length,r6.k⟩,y1.2.1⟩:Rwq)).length=(many).toNat:=by rw [List.length_set];exact hlnlr
  refine it rfl (B7h (us:=[.slice (va r6.q) y1.1.length r6.k,bv y1.2.1]) (u':=(⟨⟨va r6.q,y1.1.length,r6.k⟩,y1.2.1⟩:Rwq)) (c:=A2g) (sz:=2) (xs:=lqs) D5w (fun _=>rfl) rfl rfl rfl 1 rfl rfl rfl rfl t13 0 rfl (gd (⟨⟨none,0,0⟩,false⟩:Rwq) (by omega)) rfl rfl) fun _=>?_
  refine A6 (nx (A3 2 rfl (ix rfl (B6 rfl rfl rfl rfl (by omega)) (ip' 1 0 [(13,iv ((t13:Int)+1))] (A6 ?_)))))
  exact B3p (z1:=(fu1+1)) (z2:=(⟨some b8,k11,j12⟩:VR)) (z3:=lqs) (z4:=t13) fu1 (⟨some b8,k11,j12⟩:VR) (lqs.set t13 (⟨⟨va r6.q,y1.1.length,r6.k⟩,y1.2.1⟩:Rwq)) (t13+1) ⟨(by omega),hR,(VOk.cast hoklr (by simp)),hln13⟩ (Nat.lt_succ_self _) (mc [[bx b1 (W1 s) 67],vo A2g 115 (⟨some b8,k11,j12⟩:VR) (lqs.set t13 (⟨⟨va r6.q,y1.1.length,r6.k⟩,y1.2.1⟩:Rwq))] [true,true] rfl (by first|rfl|(simp only [List.length_set]<;>rfl))) fn0
 refine J1 (nx (sr 2 rfl (ip' 2 0 [(6,.slice (va lr.q) lqs.length lr.k)] ?_)))
 subst hR
 refine ie (B0 ?_)
 exact zer hr hD (O3 rfl (B8 rfl)) ⟨(lr,lqs),hoklr⟩ (mc [[bx b1 (W1 s) 67],vo A2g 115 lr lqs] [false,true] rfl (by first|rfl|(simp only [List.length_set]<;>rfl))) fn0
def A1z (cols:Int) (rows:Int) (s:Sty):Int :=
 (bif ((((decide (cols<2))||(decide ((80:Int)<cols)))||(decide (rows<1)))||(decide ((40:Int)<rows))) then 2 else (bif (!decide ((U8 s)=0)) then (U8 s) else 0))
theorem C5q (cols:Int) (rows:Int) (s:Sty) (R:Int) (hR:A1z cols rows s=R):Con Tryz.prog 147 [iv cols,iv rows,ag (W1 s)] [] [] ({t:VR×List Rwq // VOk 2 t.2.length t.1}) (fun x=>.tuple #[.slice (va x.1.1.q) x.1.2.length x.1.1.k,iv R]) (fun x=>((vo A2g 115 x.1.1 x.1.2)++([]))) (fun x=>[]):=by
 refine zco Tryz.func147 [(0,iv cols),(1,iv rows),(2,ag (W1 s))] fun X hX hr hD=>?_
 replace hR:=(A1z.eq_1 ..).symm.trans hR
 refine sr 3 rfl (P1 3 0 [] (fun b1=>[(5,pt b1 0)]) (fun b1=>[bx b1 (W1 s) 67]) (fun b1=>(ie (A7 (sr 14 rfl (ip' 3 11 [(11,bv (decide (cols<2)))] ?_))))))
 refine zir 3 8 11 14 (decide ((80:Int)<cols)) (fun g2 g2p=>?_) ?_
 ·refine ip' 3 0 [(14,bv (decide ((80:Int)<cols)))] ?_
  exact A6 (Q2 2 11 14 g2 fn0 (mk [true] rfl) rfl rfl rfl rfl rfl)
 refine ip' 1 7 [(15,bv ((decide (cols<2))||(decide ((80:Int)<cols))))] ?_
 refine zio 3 4 15 18 (decide (rows<1)) (fun g3=>?_) ?_
 ·have g3p:¬ ((cols<2)∨((80:Int)<cols)):=by simpa using g3
  refine ip' 3 0 [(18,bv (decide (rows<1)))] ?_
  exact A6 (Q2 2 15 18 g3 fn0 (mk [true] rfl) rfl rfl rfl rfl rfl)
 refine ip' 1 3 [(19,bv (((decide (cols<2))||(decide ((80:Int)<cols)))||(decide (rows<1))))] ?_
 refine zio 3 0 19 22 (decide ((40:Int)<rows)) (fun g4=>?_) ?_
 ·have g4p:¬ (((cols<2)∨((80:Int)<cols))∨(rows<1)):=by simpa using g4
  refine ip' 3 0 [(22,bv (decide ((40:Int)<rows)))] ?_
  exact A6 (Q2 2 19 22 g4 fn0 (mk [true] rfl) rfl rfl rfl rfl rfl)
 refine ie ?_
 refine zjb rfl hR ?_ ?_<;>clear hR<;>intro hR h5
 ·have h5p:(((cols<2)∨((80:Int)<cols))∨(rows<1))∨((40:Int)<rows):=by simpa using h5
  refine sr 2 rfl (ip' 2 0 [(6,.slice none 0 0),(7,iv 2)] ?_)
  subst hR
  refine ie (B0 ?_)
  exact zer hr hD (A4c rfl (B8 rfl) (B8 rfl)) ⟨(VR.nil,([]:List Rwq)),VOk.nil⟩ (mc [[bx b1 (W1 s) 67],vo A2g 115 VR.nil ([]:List Rwq)] [false,true] rfl (by first|rfl|(simp only [List.length_set]<;>rfl))) fn0
 have h5p:¬ ((((cols<2)∨((80:Int)<cols))∨(rows<1))∨((40:Int)<rows)):=by simpa using h5
 refine A9 (nx (A7 (sr 3 rfl (zrl 1 2 [0] [(23,ag (W1 s))] (zca (B6z s _ rfl) fn0 (ip' 1 0 [(8,iv (U8 s))] (ie (sr 2 rfl (ip' 2 0 [(26,bv (!decide ((U8 s)=0)))] (ie ?_))))))))))
 refine zjn rfl hR ?_ ?_<;>clear hR<;>intro hR h6 h6p
 ·refine sr 3 rfl (ip' 3 0 [(6,.slice none 0 0),(7,iv (U8 s))] ?_)
  subst hR
  refine ie (B0 ?_)
  exact zer hr hD (A4c rfl (B8 rfl) (B8 rfl)) ⟨(VR.nil,([]:List Rwq)),VOk.nil⟩ (mc [[bx b1 (W1 s) 67],vo A2g 115 VR.nil ([]:List Rwq)] [false,true] rfl (by first|rfl|(simp only [List.length_set]<;>rfl))) fn0
 refine A9 (nx (sr 6 rfl (zrl 3 3 [0] [(28,iv cols),(29,iv rows),(30,ag (W1 s))] (it rfl (Q6 (L2:=[bx b1 (W1 s) 67]) (C6r cols rows s (by omega) (by omega) _ rfl) rfl rfl rfl rfl rfl fn0 (List.Perm.refl _) (fun ⟨⟨r7,qs8⟩,hk9⟩=>(bx b1 (W1 s) 67::(vo A2g 115 r7 qs8)++([]))) (fun ⟨⟨r7,qs8⟩,hk9⟩=>L9 [vo A2g 115 r7 qs8,[bx b1 (W1 s) 67]] [1,0] 2 rfl (by decide) (by first|rfl|simp) [[bx b1 (W1 s) 67],vo A2g 115 r7 qs8] rfl (by first|rfl|simp))) fun ⟨⟨r7,qs8⟩,hk9⟩=>?_))))
 try dsimp only at hk9
 have:=VOk.le hk9
 have:=VOk.cap hk9
 refine ip' 2 0 [(6,.slice (va r7.q) qs8.length r7.k),(7,iv 0)] ?_
 subst hR
 refine ie (B0 ?_)
 exact zer hr hD (A4c rfl (B8 rfl) (B8 rfl)) ⟨(r7,qs8),hk9⟩ (mc [[bx b1 (W1 s) 67],vo A2g 115 r7 qs8] [false,true] rfl (by first|rfl|(simp only [List.length_set]<;>rfl))) fn0
def U2 (cols:Int) (rows:Int):Int :=
 (bif (!decide ((A1z cols rows Sty.zero)=0)) then (A1z cols rows Sty.zero) else (B5 (B5m cols) fun (y2:List Bool×Int)=>(B5 C5v fun (y0:Bool×Bool×Bool×Bool×Bool×Bool×Bool×Bool×Bool×Bool×Bool×Int×Bool)=>y2.2)))
theorem C8r (cols:Int) (rows:Int) (R:Int) (hR:U2 cols rows=R):Con Tryz.prog 103 [iv cols,iv rows] [] [] ({u:List Value // u.length=80∧u.all (·.oneCell')=true}) (fun x=>.tuple #[ag x.1,iv R]) (fun x=>[]) (fun x=>[]):=by
 refine zco Tryz.func103 [(0,iv cols),(1,iv rows)] fun X hX hr hD=>?_
 replace hR:=(U2.eq_1 ..).symm.trans hR
 refine sr 2 rfl (P1 2 0 [] (fun b1=>[(4,pt b1 0)]) (fun b1=>[bx b1 [iv 0,iv 0,.slice none 0 0,.slice none 0 0,bv false,.slice none 0 0,iv 0,iv 0,bv false,iv 0,iv 0,iv 0,iv 0,iv 0,iv 0,iv 0,iv 0,iv 0,iv 0,iv 0,iv 0,iv 0,iv 0,bv false,bv false,bv false,bv false,bv false,bv false,bv false,bv false,bv false,bv false,bv false,iv 0,bv false,iv 0,iv 0,.slice none 0 0,bv false,iv 0,iv 0,bv false,iv 0,iv 0,iv 0,iv 0,iv 0,iv 0,iv 0,iv 0,iv 0,iv 0,iv 0,iv 0,iv 0,iv 0,bv false,bv false,iv 0,iv 0,bv false,iv 0,iv 0,iv 0,iv 0,iv 0,iv 0,iv 0,iv 0,iv 0,iv 0,iv 0,iv 0,iv 0,iv 0,bv false,iv 0,sv ([]:List UInt8),iv 0] 164]) (fun b1=>(ie (sr 9 rfl (zrl 3 6 [] [(12,iv cols),(13,iv rows),(14,ag (W1 Sty.zero))] (it rfl (Q6 (L2:=[bx b1 [iv 0,iv 0,.slice none 0 0,.slice none 0 0,bv false,.slice none 0 0,iv 0,iv 0,bv false,iv 0,iv 0,iv 0,iv 0,iv 0,iv 0,iv 0,iv 0,iv 0,iv 0,iv 0,iv 0,iv 0,iv 0,bv false,bv false,bv false,bv false,bv false,bv false,bv false,bv false,bv false,bv false,bv false,iv 0,bv false,iv 0,iv 0,.slice none 0 0,bv false,iv 0,iv 0,bv false,iv 0,iv 0,iv 0,iv 0,iv 0,iv 0,iv 0,iv 0,iv 0,iv 0,iv 0,iv 0,iv 0,iv 0,bv false,bv false,iv 0,iv 0,bv false,iv 0,iv 0,iv 0,iv 0,iv 0,iv 0,iv 0,iv 0,iv 0,iv 0,iv 0,iv 0,iv 0,iv 0,bv false,iv 0,sv ([]:List UInt8),iv 0] 164]) (C5q cols rows Sty.zero _ rfl) rfl rfl rfl rfl rfl fn0 (List.Perm.refl _) (fun ⟨⟨r2,qs3⟩,hk4⟩=>(bx b1 [iv 0,iv 0,.slice none 0 0,.slice none 0 0,bv false,.slice none 0 0,iv 0,iv 0,bv false,iv 0,iv 0,iv 0,iv 0,iv 0,iv 0,iv 0,iv 0,iv 0,iv 0,iv 0,iv 0,iv 0,iv 0,bv false,bv false,bv false,bv false,bv false,bv false,bv false,bv false,bv false,bv false,bv false,iv 0,bv false,iv 0,iv 0,.slice none 0 0,bv false,iv 0,iv 0,bv false,iv 0,iv 0,iv 0,iv 0,iv 0,iv 0,iv 0,iv 0,iv 0,iv 0,iv 0,iv 0,iv 0,iv 0,bv false,bv false,iv 0,iv 0,bv false,iv 0,iv 0,iv 0,iv 0,iv 0,iv 0,iv 0,iv 0,iv 0,iv 0,iv 0,iv 0,iv 0,iv 0,bv false,iv 0,sv ([]:List UInt8),iv 0] 164::(vo A2g 115 r2 qs3)++([]))) (fun ⟨⟨r2,qs3⟩,hk4⟩=>L9 [vo A2g 115 r2 qs3,[bx b1 [iv 0,iv 0,.slice none 0 0,.slice none 0 0,bv false,.slice none 0 0,iv 0,iv 0,bv false,iv 0,iv 0,iv 0,iv 0,iv 0,iv 0,iv 0,iv 0,iv 0,iv 0,iv 0,iv 0,iv 0,iv 0,bv false,bv false,bv false,bv false,bv false,bv false,bv false,bv false,bv false,bv false,bv false,iv 0,bv false,iv 0,iv 0,.slice none 0 0,bv false,iv 0,iv 0,bv false,iv 0,iv 0,iv 0,iv 0,iv 0,iv 0,iv 0,iv 0,iv 0,iv 0,iv 0,iv 0,iv 0,iv 0,bv false,bv false,iv 0,iv 0,bv false,iv 0,iv 0,iv 0,iv 0,iv 0,iv 0,iv 0,iv 0,iv 0,iv 0,iv 0,iv 0,iv 0,iv 0,bv false,iv 0,sv ([]:List UInt8),iv 0] 164]] [1,0] 2 rfl (by decide) (by first|rfl|simp) [[bx b1 [iv 0,iv 0,.slice none 0 0,.slice none 0 0,bv false,.slice none 0 0,iv 0,iv 0,bv false,iv 0,iv 0,iv 0,iv 0,iv 0,iv 0,iv 0,iv 0,iv 0,iv 0,iv 0,iv 0,iv 0,iv 0,bv false,bv false,bv false,bv false,bv false,bv false,bv false,bv false,bv false,bv false,bv false,iv 0,bv false,iv 0,iv 0,.slice none 0 0,bv false,iv 0,iv 0,bv false,iv 0,iv 0,iv 0,iv 0,iv 0,iv 0,iv 0,iv 0,iv 0,iv 0,iv 0,iv 0,iv 0,iv 0,bv false,bv false,iv 0,iv 0,bv false,iv 0,iv 0,iv 0,iv 0,iv 0,iv 0,iv 0,iv 0,iv 0,iv 0,iv 0,iv 0,iv 0,iv 0,bv false,iv 0,sv ([]:List UInt8),iv 0] 164],vo A2g 115 r2 qs3] rfl (by first|rfl|simp))) fun ⟨⟨r2,qs3⟩,hk4⟩=>?_))))))
 try dsimp only at hk4
 have:=VOk.le hk4
 have:=VOk.cap hk4
 refine ip' 5 0 [(6,.slice (va r2.q) qs3.length r2.k),(7,iv (A1z cols rows Sty.zero))] (ie (A7 (sr 2 rfl (ip' 2 0 [(19,bv (!decide ((A1z cols rows Sty.zero)=0)))] (ie ?_)))))
 refine zjn rfl hR ?_ ?_<;>clear hR<;>intro hR h5 h5p
 ·refine sr 4 rfl (zrg 4 0 [0] [(5,iv (A1z cols rows Sty.zero))] (bx b1 [iv 0,iv 0,.slice none 0 0,.slice none 0 0,bv false,.slice none 0 0,iv 0,iv 0,bv false,iv 0,iv 0,iv 0,iv 0,iv 0,iv 0,iv 0,iv 0,iv 0,iv 0,iv 0,iv 0,iv 0,iv 0,bv false,bv false,bv false,bv false,bv false,bv false,bv false,bv false,bv false,bv false,bv false,iv 0,bv false,iv 0,iv 0,.slice none 0 0,bv false,iv 0,iv 0,bv false,iv 0,iv 0,iv 0,iv 0,iv 0,iv 0,iv 0,iv 0,iv 0,iv 0,iv 0,iv 0,iv 0,iv 0,bv false,bv false,iv 0,iv 0,bv false,iv 0,iv 0,iv 0,iv 0,iv 0,iv 0,iv 0,iv 0,iv 0,iv 0,iv 0,iv 0,iv 0,iv 0,bv false,iv 0,sv ([]:List UInt8),iv 0] 164::(vo A2g 115 r2 qs3)++([])) ?_)
  subst hR
  refine ie (B0 ?_)
  exact zer hr hD (A4c rfl (G3 (us:=[iv 0,iv 0,.slice none 0 0,.slice none 0 0,bv false,.slice none 0 0,iv 0,iv 0,bv false,iv 0,iv 0,iv 0,iv 0,iv 0,iv 0,iv 0,iv 0,iv 0,iv 0,iv 0,iv 0,iv 0,iv 0,bv false,bv false,bv false,bv false,bv false,bv false,bv false,bv false,bv false,bv false,bv false,iv 0,bv false,iv 0,iv 0,.slice none 0 0,bv false,iv 0,iv 0,bv false,iv 0,iv 0,iv 0,iv 0,iv 0,iv 0,iv 0,iv 0,iv 0,iv 0,iv 0,iv 0,iv 0,iv 0,bv false,bv false,iv 0,iv 0,bv false,iv 0,iv 0,iv 0,iv 0,iv 0,iv 0,iv 0,iv 0,iv 0,iv 0,iv 0,iv 0,iv 0,iv 0,bv false,iv 0,sv ([]:List UInt8),iv 0]) E0u rfl 0 rfl rfl rfl) (B8 rfl)) ⟨[iv 0,iv 0,.slice none 0 0,.slice none 0 0,bv false,.slice none 0 0,iv 0,iv 0,bv false,iv 0,iv 0,iv 0,iv 0,iv 0,iv 0,iv 0,iv 0,iv 0,iv 0,iv 0,iv 0,iv 0,iv 0,bv false,bv false,bv false,bv false,bv false,bv false,bv false,bv false,bv false,bv false,bv false,iv 0,bv false,iv 0,iv 0,.slice none 0 0,bv false,iv 0,iv 0,bv false,iv 0,iv 0,iv 0,iv 0,iv 0,iv 0,iv 0,iv 0,iv 0,iv 0,iv 0,iv 0,iv 0,iv 0,bv false,bv false,iv 0,iv 0,bv false,iv 0,iv 0,iv 0,iv 0,iv 0,iv 0,iv 0,iv 0,iv 0,iv 0,iv 0,iv 0,iv 0,iv 0,bv false,iv 0,sv ([]:List UInt8),iv 0],by exact ⟨rfl,rfl⟩⟩ (List.nil_sublist _) fn0
 refine A9 (nx (sr 9 rfl (zrl 3 6 [] [(23,iv cols),(24,iv rows),(25,ag (W1 Sty.zero))] (it rfl (Q6 (L2:=(bx b1 [iv 0,iv 0,.slice none 0 0,.slice none 0 0,bv false,.slice none 0 0,iv 0,iv 0,bv false,iv 0,iv 0,iv 0,iv 0,iv 0,iv 0,iv 0,iv 0,iv 0,iv 0,iv 0,iv 0,iv 0,iv 0,bv false,bv false,bv false,bv false,bv false,bv false,bv false,bv false,bv false,bv false,bv false,iv 0,bv false,iv 0,iv 0,.slice none 0 0,bv false,iv 0,iv 0,bv false,iv 0,iv 0,iv 0,iv 0,iv 0,iv 0,iv 0,iv 0,iv 0,iv 0,iv 0,iv 0,iv 0,iv 0,bv false,bv false,iv 0,iv 0,bv false,iv 0,iv 0,iv 0,iv 0,iv 0,iv 0,iv 0,iv 0,iv 0,iv 0,iv 0,iv 0,iv 0,iv 0,bv false,iv 0,sv ([]:List UInt8),iv 0] 164::(vo A2g 115 r2 qs3)++([]))) (C5q cols rows Sty.zero _ rfl) rfl rfl rfl rfl rfl fn0 (List.Perm.refl _) (fun ⟨⟨r6,qs7⟩,hk8⟩=>(bx b1 [iv 0,iv 0,.slice none 0 0,.slice none 0 0,bv false,.slice none 0 0,iv 0,iv 0,bv false,iv 0,iv 0,iv 0,iv 0,iv 0,iv 0,iv 0,iv 0,iv 0,iv 0,iv 0,iv 0,iv 0,iv 0,bv false,bv false,bv false,bv false,bv false,bv false,bv false,bv false,bv false,bv false,bv false,iv 0,bv false,iv 0,iv 0,.slice none 0 0,bv false,iv 0,iv 0,bv false,iv 0,iv 0,iv 0,iv 0,iv 0,iv 0,iv 0,iv 0,iv 0,iv 0,iv 0,iv 0,iv 0,iv 0,bv false,bv false,iv 0,iv 0,bv false,iv 0,iv 0,iv 0,iv 0,iv 0,iv 0,iv 0,iv 0,iv 0,iv 0,iv 0,iv 0,iv 0,iv 0,bv false,iv 0,sv ([]:List UInt8),iv 0] 164::(vo A2g 115 r6 qs7)++((vo A2g 115 r2 qs3)++([])))) (fun ⟨⟨r6,qs7⟩,hk8⟩=>L9 [vo A2g 115 r6 qs7,[bx b1 [iv 0,iv 0,.slice none 0 0,.slice none 0 0,bv false,.slice none 0 0,iv 0,iv 0,bv false,iv 0,iv 0,iv 0,iv 0,iv 0,iv 0,iv 0,iv 0,iv 0,iv 0,iv 0,iv 0,iv 0,iv 0,bv false,bv false,bv false,bv false,bv false,bv false,bv false,bv false,bv false,bv false,bv false,iv 0,bv false,iv 0,iv 0,.slice none 0 0,bv false,iv 0,iv 0,bv false,iv 0,iv 0,iv 0,iv 0,iv 0,iv 0,iv 0,iv 0,iv 0,iv 0,iv 0,iv 0,iv 0,iv 0,bv false,bv false,iv 0,iv 0,bv false,iv 0,iv 0,iv 0,iv 0,iv 0,iv 0,iv 0,iv 0,iv 0,iv 0,iv 0,iv 0,iv 0,iv 0,bv false,iv 0,sv ([]:List UInt8),iv 0] 164],vo A2g 115 r2 qs3] [1,0,2] 3 rfl (by decide) (by first|rfl|simp) [[bx b1 [iv 0,iv 0,.slice none 0 0,.slice none 0 0,bv false,.slice none 0 0,iv 0,iv 0,bv false,iv 0,iv 0,iv 0,iv 0,iv 0,iv 0,iv 0,iv 0,iv 0,iv 0,iv 0,iv 0,iv 0,iv 0,bv false,bv false,bv false,bv false,bv false,bv false,bv false,bv false,bv false,bv false,bv false,iv 0,bv false,iv 0,iv 0,.slice none 0 0,bv false,iv 0,iv 0,bv false,iv 0,iv 0,iv 0,iv 0,iv 0,iv 0,iv 0,iv 0,iv 0,iv 0,iv 0,iv 0,iv 0,iv 0,bv false,bv false,iv 0,iv 0,bv false,iv 0,iv 0,iv 0,iv 0,iv 0,iv 0,iv 0,iv 0,iv 0,iv 0,iv 0,iv 0,iv 0,iv 0,bv false,iv 0,sv ([]:List UInt8),iv 0] 164],vo A2g 115 r6 qs7,vo A2g 115 r2 qs3] rfl (by first|rfl|simp))) fun ⟨⟨r6,qs7⟩,hk8⟩=>?_))))
 try dsimp only at hk8
 have:=VOk.le hk8
 have:=VOk.cap hk8
 refine ip' 5 0 [(8,.slice (va r6.q) qs7.length r6.k)] (ie (sr 7 rfl (ip' 1 6 [(30,iv cols)] ?_)))
 have hQ:=C9 hR;clear hR;obtain ⟨y2,hy2,hR⟩:=hQ
 refine it rfl (Q6 (L2:=(bx b1 [iv 0,iv 0,.slice none 0 0,.slice none 0 0,bv false,.slice none 0 0,iv 0,iv 0,bv false,iv 0,iv 0,iv 0,iv 0,iv 0,iv 0,iv 0,iv 0,iv 0,iv 0,iv 0,iv 0,iv 0,iv 0,bv false,bv false,bv false,bv false,bv false,bv false,bv false,bv false,bv false,bv false,bv false,iv 0,bv false,iv 0,iv 0,.slice none 0 0,bv false,iv 0,iv 0,bv false,iv 0,iv 0,iv 0,iv 0,iv 0,iv 0,iv 0,iv 0,iv 0,iv 0,iv 0,iv 0,iv 0,iv 0,bv false,bv false,iv 0,iv 0,bv false,iv 0,iv 0,iv 0,iv 0,iv 0,iv 0,iv 0,iv 0,iv 0,iv 0,iv 0,iv 0,iv 0,iv 0,bv false,iv 0,sv ([]:List UInt8),iv 0] 164::(vo A2g 115 r6 qs7)++((vo A2g 115 r2 qs3)++([])))) (D3k cols y2 hy2) rfl rfl rfl rfl rfl fn0 (List.Perm.refl _) (fun ⟨r9,hk10⟩=>(bx b1 [iv 0,iv 0,.slice none 0 0,.slice none 0 0,bv false,.slice none 0 0,iv 0,iv 0,bv false,iv 0,iv 0,iv 0,iv 0,iv 0,iv 0,iv 0,iv 0,iv 0,iv 0,iv 0,iv 0,iv 0,iv 0,bv false,bv false,bv false,bv false,bv false,bv false,bv false,bv false,bv false,bv false,bv false,iv 0,bv false,iv 0,iv 0,.slice none 0 0,bv false,iv 0,iv 0,bv false,iv 0,iv 0,iv 0,iv 0,iv 0,iv 0,iv 0,iv 0,iv 0,iv 0,iv 0,iv 0,iv 0,iv 0,bv false,bv false,iv 0,iv 0,bv false,iv 0,iv 0,iv 0,iv 0,iv 0,iv 0,iv 0,iv 0,iv 0,iv 0,iv 0,iv 0,iv 0,iv 0,bv false,iv 0,sv ([]:List UInt8),iv 0] 164::(vo B0n 4 r9 y2.1)++((vo A2g 115 r6 qs7)++((vo A2g 115 r2 qs3)++([]))))) (fun ⟨r9,hk10⟩=>L9 [vo B0n 4 r9 y2.1,[bx b1 [iv 0,iv 0,.slice none 0 0,.slice none 0 0,bv false,.slice none 0 0,iv 0,iv 0,bv false,iv 0,iv 0,iv 0,iv 0,iv 0,iv 0,iv 0,iv 0,iv 0,iv 0,iv 0,iv 0,iv 0,iv 0,bv false,bv false,bv false,bv false,bv false,bv false,bv false,bv false,bv false,bv false,bv false,iv 0,bv false,iv 0,iv 0,.slice none 0 0,bv false,iv 0,iv 0,bv false,iv 0,iv 0,iv 0,iv 0,iv 0,iv 0,iv 0,iv 0,iv 0,iv 0,iv 0,iv 0,iv 0,iv 0,bv false,bv false,iv 0,iv 0,bv false,iv 0,iv 0,iv 0,iv 0,iv 0,iv 0,iv 0,iv 0,iv 0,iv 0,iv 0,iv 0,iv 0,iv 0,bv false,iv 0,sv ([]:List UInt8),iv 0] 164],vo A2g 115 r6 qs7,vo A2g 115 r2 qs3] [1,0,2,3] 4 rfl (by decide) (by first|rfl|simp) [[bx b1 [iv 0,iv 0,.slice none 0 0,.slice none 0 0,bv false,.slice none 0 0,iv 0,iv 0,bv false,iv 0,iv 0,iv 0,iv 0,iv 0,iv 0,iv 0,iv 0,iv 0,iv 0,iv 0,iv 0,iv 0,iv 0,bv false,bv false,bv false,bv false,bv false,bv false,bv false,bv false,bv false,bv false,bv false,iv 0,bv false,iv 0,iv 0,.slice none 0 0,bv false,iv 0,iv 0,bv false,iv 0,iv 0,iv 0,iv 0,iv 0,iv 0,iv 0,iv 0,iv 0,iv 0,iv 0,iv 0,iv 0,iv 0,bv false,bv false,iv 0,iv 0,bv false,iv 0,iv 0,iv 0,iv 0,iv 0,iv 0,iv 0,iv 0,iv 0,iv 0,iv 0,iv 0,iv 0,iv 0,bv false,iv 0,sv ([]:List UInt8),iv 0] 164],vo B0n 4 r9 y2.1,vo A2g 115 r6 qs7,vo A2g 115 r2 qs3] rfl (by first|rfl|simp))) fun ⟨r9,hk10⟩=>?_
 have:=VOk.le hk10
 have:=VOk.cap hk10
 refine ip' 5 0 [(10,.slice (va r9.q) y2.1.length r9.k),(7,iv y2.2)] (ie (sr 12 rfl (ip' 4 8 [(34,iv cols),(35,iv rows),(36,.slice (va r2.q) qs3.length r2.k),(37,.slice (va r6.q) qs7.length r6.k)] ?_)))
 have hQ:=C9 hR;clear hR;obtain ⟨y0,hy0,hR⟩:=hQ
 refine zca (D4a y0 hy0) fn0 (ip' 1 6 [(39,iv rows)] (ix rfl (J0.pure rfl) (zrg 5 0 [0] [(5,iv y2.2)] (bx b1 [iv cols,iv rows,.slice (va r2.q) qs3.length r2.k,.slice (va r6.q) qs7.length r6.k,bv false,.slice none 0 0,iv 0,iv 0,bv false,iv 0,iv 0,iv 0,iv 0,iv 0,iv 0,iv 0,iv 0,iv 0,iv 0,iv 0,iv 0,iv 0,iv 0,bv y0.1,bv y0.2.1,bv y0.2.2.1,bv y0.2.2.2.1,bv y0.2.2.2.2.1,bv y0.2.2.2.2.2.1,bv y0.2.2.2.2.2.2.1,bv y0.2.2.2.2.2.2.2.1,bv y0.2.2.2.2.2.2.2.2.1,bv y0.2.2.2.2.2.2.2.2.2.1,bv y0.2.2.2.2.2.2.2.2.2.2.1,iv y0.2.2.2.2.2.2.2.2.2.2.2.1,bv y0.2.2.2.2.2.2.2.2.2.2.2.2,iv 0,iv (IntKind.i64.wrap (rows - (1:Int))),.slice (va r9.q) y2.1.length r9.k,bv false,iv 0,iv 0,bv false,iv 0,iv 0,iv 0,iv 0,iv 0,iv 0,iv 0,iv 0,iv 0,iv 0,iv 0,iv 0,iv 0,iv 0,bv false,bv false,iv 0,iv 0,bv false,iv 0,iv 0,iv 0,iv 0,iv 0,iv 0,iv 0,iv 0,iv 0,iv 0,iv 0,iv 0,iv 0,iv 0,bv false,iv 0,sv ([]:List UInt8),iv 0] 164::(vo B0n 4 r9 y2.1)++((vo A2g 115 r6 qs7)++((vo A2g 115 r2 qs3)++([])))) ?_)))
 subst hR
 refine ie (B0 ?_)
 exact zer hr hD (A4c rfl (G3 (us:=[iv cols,iv rows,.slice (va r2.q) qs3.length r2.k,.slice (va r6.q) qs7.length r6.k,bv false,.slice none 0 0,iv 0,iv 0,bv false,iv 0,iv 0,iv 0,iv 0,iv 0,iv 0,iv 0,iv 0,iv 0,iv 0,iv 0,iv 0,iv 0,iv 0,bv y0.1,bv y0.2.1,bv y0.2.2.1,bv y0.2.2.2.1,bv y0.2.2.2.2.1,bv y0.2.2.2.2.2.1,bv y0.2.2.2.2.2.2.1,bv y0.2.2.2.2.2.2.2.1,bv y0.2.2.2.2.2.2.2.2.1,bv y0.2.2.2.2.2.2.2.2.2.1,bv y0.2.2.2.2.2.2.2.2.2.2.1,iv y0.2.2.2.2.2.2.2.2.2.2.2.1,bv y0.2.2.2.2.2.2.2.2.2.2.2.2,iv 0,iv (IntKind.i64.wrap (rows - (1:Int))),.slice (va r9.q) y2.1.length r9.k,bv false,iv 0,iv 0,bv false,iv 0,iv 0,iv 0,iv 0,iv 0,iv 0,iv 0,iv 0,iv 0,iv 0,iv 0,iv 0,iv 0,iv 0,bv false,bv false,iv 0,iv 0,bv false,iv 0,iv 0,iv 0,iv 0,iv 0,iv 0,iv 0,iv 0,iv 0,iv 0,iv 0,iv 0,iv 0,iv 0,bv false,iv 0,sv ([]:List UInt8),iv 0]) E0u rfl 0 rfl rfl rfl) (B8 rfl)) ⟨[iv cols,iv rows,.slice (va r2.q) qs3.length r2.k,.slice (va r6.q) qs7.length r6.k,bv false,.slice none 0 0,iv 0,iv 0,bv false,iv 0,iv 0,iv 0,iv 0,iv 0,iv 0,iv 0,iv 0,iv 0,iv 0,iv 0,iv 0,iv 0,iv 0,bv y0.1,bv y0.2.1,bv y0.2.2.1,bv y0.2.2.2.1,bv y0.2.2.2.2.1,bv y0.2.2.2.2.2.1,bv y0.2.2.2.2.2.2.1,bv y0.2.2.2.2.2.2.2.1,bv y0.2.2.2.2.2.2.2.2.1,bv y0.2.2.2.2.2.2.2.2.2.1,bv y0.2.2.2.2.2.2.2.2.2.2.1,iv y0.2.2.2.2.2.2.2.2.2.2.2.1,bv y0.2.2.2.2.2.2.2.2.2.2.2.2,iv 0,iv (IntKind.i64.wrap (rows - (1:Int))),.slice (va r9.q) y2.1.length r9.k,bv false,iv 0,iv 0,bv false,iv 0,iv 0,iv 0,iv 0,iv 0,iv 0,iv 0,iv 0,iv 0,iv 0,iv 0,iv 0,iv 0,iv 0,bv false,bv false,iv 0,iv 0,bv false,iv 0,iv 0,iv 0,iv 0,iv 0,iv 0,iv 0,iv 0,iv 0,iv 0,iv 0,iv 0,iv 0,iv 0,bv false,iv 0,sv ([]:List UInt8),iv 0],by exact ⟨rfl,rfl⟩⟩ (List.nil_sublist _) fn0
def H8 (row:Int) (col:Int) (p2:Int) (p3:Int):Bool :=
 ((((decide ((0:Int)≤row))&&(decide (row<p2)))&&(decide ((0:Int)≤col)))&&(decide (col<p3)))
theorem B0i (row:Int) (col:Int) (p2:Int) (p3:Int) (p2p:Addr) (p3p:Addr) (R:Bool) (hR:H8 row col p2 p3=R):K5 Tryz.prog 104 [iv row,iv col,pa p2p,pa p3p] [at_ p2p [iv p2],at_ p3p [iv p3]] (bv R):=by
 refine zco Tryz.func104 [(0,iv row),(1,iv col),(2,pa p2p),(3,pa p3p)] fun X hX hr hD=>?_
 replace hR:=(H8.eq_1 ..).symm.trans hR
 refine sr 1 rfl (ip' 1 0 [] (ie (sr 17 rfl (ip' 3 14 [(9,bv (decide ((0:Int)≤row)))] ?_))))
 refine zid 4 10 9 13 (decide (row<p2)) (fun g1 g1p=>?_) ?_
 ·refine ip' 1 3 [(10,iv row)] (ix rfl (C4 (v:=iv p2) (us:=[iv p2]) ty3 rfl rfl (A1 0 rfl) rfl) (ip' 2 0 [(13,bv (decide (row<p2)))] ?_))
  exact zai 4 9 13 g1
 refine ip' 1 9 [(14,bv ((decide ((0:Int)≤row))&&(decide (row<p2))))] ?_
 refine zia 3 6 14 17 (decide ((0:Int)≤col)) (fun g2=>?_) ?_
 ·have g2p:((0:Int)≤row)∧(row<p2):=by simpa using g2
  refine ip' 3 0 [(17,bv (decide ((0:Int)≤col)))] ?_
  exact zai 2 14 17 g2
 refine ip' 1 5 [(18,bv (((decide ((0:Int)≤row))&&(decide (row<p2)))&&(decide ((0:Int)≤col))))] ?_
 refine zia 4 1 18 22 (decide (col<p3)) (fun g3=>?_) ?_
 ·have g3p:(((0:Int)≤row)∧(row<p2))∧((0:Int)≤col):=by simpa using g3
  refine ip' 1 3 [(19,iv col)] (ix rfl (C4 (v:=iv p3) (us:=[iv p3]) ty3 rfl rfl (A1 1 rfl) rfl) (ip' 2 0 [(22,bv (decide (col<p3)))] ?_))
  exact zai 4 18 22 g3
 refine ip' 1 0 [(6,bv ((((decide ((0:Int)≤row))&&(decide (row<p2)))&&(decide ((0:Int)≤col)))&&(decide (col<p3))))] ?_
 subst hR
 refine ie (B0 ?_)
 exact F8 hr hD
@[reducible] def E9n:List Value:=[iv 0,iv 0,.slice none 0 0,.slice none 0 0,bv false,.slice none 0 0,iv 0,iv 0,bv false,iv 0,iv 0,iv 0,iv 0,iv 0,iv 0,iv 0,iv 0,iv 0,iv 0,iv 0,iv 0,iv 0,iv 0,bv false,bv false,bv false,bv false,bv false,bv false,bv false,bv false,bv false,bv false,bv false,iv 0,bv false,iv 0,iv 0,.slice none 0 0,bv false,iv 0,iv 0,bv false,iv 0,iv 0,iv 0,iv 0,iv 0,iv 0,iv 0,iv 0,iv 0,iv 0,iv 0,iv 0,iv 0,iv 0,bv false,bv false,iv 0,iv 0,bv false,iv 0,iv 0,iv 0,iv 0,iv 0,iv 0,iv 0,iv 0,iv 0,iv 0,iv 0,iv 0,iv 0,iv 0,bv false,iv 0,sv ([]:List UInt8),iv 0]
def F1 (cols:Int) (rows:Int) (p:Pth):Int :=
 (bif ((((!decide ((U2 cols rows)=0))||(!(H8 p.frm.row p.frm.col rows cols)))||(!(H8 p.to_.row p.to_.col rows cols)))||(p.frm.wrap&&(!decide (p.frm.col=(IntKind.i64.wrap (cols - (1:Int))))))) then 2 else 0)
theorem B2s (cols:Int) (rows:Int) (p:Pth) (R:Int) (hR:F1 cols rows p=R):K5 Tryz.prog 51 [iv cols,iv rows,ag (F4 p)] [] (iv R):=by
 refine zco Tryz.func51 [(0,iv cols),(1,iv rows),(2,ag (F4 p))] fun X hX hr hD=>?_
 replace hR:=(F1.eq_1 ..).symm.trans hR
 refine sr 4 rfl (it rfl (Z5 (cs:=[iv cols]) rfl rfl rfl) fun b1=>?_)
 refine A2u 0 rfl ?_
 refine it rfl (Z5 (cs:=[iv rows]) rfl rfl rfl) fun b2=>?_
 refine A2u 0 rfl ?_
 refine it rfl (Z5 (cs:=F4 p) rfl rfl rfl) fun b3=>?_
 refine A2u 0 rfl ?_
 refine ip' 1 0 [] (ie (sr 9 rfl (ix rfl (C4 (v:=iv cols) (us:=[iv cols]) ty3 rfl rfl (A1 2 rfl) rfl) (ix rfl (C4 (v:=iv rows) (us:=[iv rows]) ty3 rfl rfl (A1 1 rfl) rfl) ?_))))
 refine zcm (C8r cols rows _ rfl) fn0 fun ⟨u4,hu5⟩=>?_
 refine P1 4 2 [] (fun b6=>[(14,ag u4),(15,iv (U2 cols rows)),(7,pt b6 0)]) (fun b6=>[bx b6 E9n 164]) (fun b6=>?_)
 refine it rfl (W0 (us:=u4) (cs':=u4) E0u rfl rfl rfl 0 rfl rfl hu5.1 hu5.2 (C8w (by rw [hu5.1];rfl)) rfl) fun _=>?_
 refine ip' 1 0 [(8,iv (U2 cols rows))] (ie (sr 2 rfl (ip' 2 0 [(9,.func (.func 104) #[] #[pa (⟨b2,0,none⟩:Addr),pa (⟨b1,0,none⟩:Addr)])] (ie (A7 (sr 37 rfl (ip' 3 34 [(19,bv (!decide ((U2 cols rows)=0)))] ?_)))))))
 refine zio 10 24 19 29 (!(H8 p.frm.row p.frm.col rows cols)) (fun g7=>?_) ?_
 ·have g7p:¬ (¬ (U2 cols rows)=0):=by simpa using g7
  refine ip' 3 7 [(20,.func (.func 104) #[] #[pa (⟨b2,0,none⟩:Addr),pa (⟨b1,0,none⟩:Addr)]),(22,pa (⟨b3,0,none⟩:Addr))] (ix rfl (C4 (v:=iv p.frm.row) (us:=[iv p.frm.row]) ty3 rfl rfl (U3 (U3 (A1 0 rfl) (ws:=H2 p.frm) 3 rfl) (ws:=[iv p.frm.row]) 1 rfl) rfl) (ip' 2 4 [(25,pa ((⟨b3,0,none⟩:Addr).add 1))] (ix rfl (C4 (v:=iv p.frm.col) (us:=[iv p.frm.col]) ty3 rfl rfl (A4e (U3 (A1 0 rfl) (ws:=H2 p.frm) 3 rfl) (ws:=[iv p.frm.col]) 1 1 rfl) rfl) (zca (B0i p.frm.row p.frm.col rows cols (⟨b2,0,none⟩:Addr) (⟨b1,0,none⟩:Addr) _ rfl) (A0.pick [1,2] rfl) (ip' 2 0 [(29,bv (!(H8 p.frm.row p.frm.col rows cols)))] ?_)))))
  exact zai 8 19 29 g7
 refine ip' 1 23 [(30,bv ((!decide ((U2 cols rows)=0))||(!(H8 p.frm.row p.frm.col rows cols))))] ?_
 refine zio 10 13 30 40 (!(H8 p.to_.row p.to_.col rows cols)) (fun g8=>?_) ?_
 ·have g8p:=g8;try simp at g8p
  refine ip' 3 7 [(31,.func (.func 104) #[] #[pa (⟨b2,0,none⟩:Addr),pa (⟨b1,0,none⟩:Addr)]),(33,pa ((⟨b3,0,none⟩:Addr).add 3))] (ix rfl (C4 (v:=iv p.to_.row) (us:=[iv p.to_.row]) ty3 rfl rfl (U3 (A4e (A1 0 rfl) (ws:=I0 p.to_) 3 2 rfl) (ws:=[iv p.to_.row]) 1 rfl) rfl) (ip' 2 4 [(36,pa (((⟨b3,0,none⟩:Addr).add 3).add 1))] (ix rfl (C4 (v:=iv p.to_.col) (us:=[iv p.to_.col]) ty3 rfl rfl (A4e (A4e (A1 0 rfl) (ws:=I0 p.to_) 3 2 rfl) (ws:=[iv p.to_.col]) 1 1 rfl) rfl) (zca (B0i p.to_.row p.to_.col rows cols (⟨b2,0,none⟩:Addr) (⟨b1,0,none⟩:Addr) _ rfl) (A0.pick [1,2] rfl) (ip' 2 0 [(40,bv (!(H8 p.to_.row p.to_.col rows cols)))] ?_)))))
  exact zai 8 30 40 g8
 refine ip' 1 12 [(41,bv (((!decide ((U2 cols rows)=0))||(!(H8 p.frm.row p.frm.col rows cols)))||(!(H8 p.to_.row p.to_.col rows cols))))] ?_
 refine zio 12 0 41 53 (p.frm.wrap&&(!decide (p.frm.col=(IntKind.i64.wrap (cols - (1:Int)))))) (fun g9=>?_) ?_
 ·have g9p:=g9;try simp at g9p
  refine ip' 2 10 [(43,pa ((⟨b3,0,none⟩:Addr).add 2))] (ix rfl (C4 (v:=bv p.frm.wrap) (us:=[bv p.frm.wrap]) ty4 rfl rfl (A4e (U3 (A1 0 rfl) (ws:=H2 p.frm) 3 rfl) (ws:=[bv p.frm.wrap]) 2 1 rfl) rfl) (ip' 1 8 [(45,bv p.frm.wrap)] ?_))
  refine zia 7 1 45 52 (!decide (p.frm.col=(IntKind.i64.wrap (cols - (1:Int))))) (fun g10=>?_) ?_
  ·refine ip' 2 5 [(47,pa ((⟨b3,0,none⟩:Addr).add 1))] (ix rfl (C4 (v:=iv p.frm.col) (us:=[iv p.frm.col]) ty3 rfl rfl (A4e (U3 (A1 0 rfl) (ws:=H2 p.frm) 3 rfl) (ws:=[iv p.frm.col]) 1 1 rfl) rfl) (ix rfl (C4 (v:=iv cols) (us:=[iv cols]) ty3 rfl rfl (A1 2 rfl) rfl) (ix rfl (J0.pure rfl) (ip' 2 0 [(52,bv (!decide (p.frm.col=(IntKind.i64.wrap (cols - (1:Int))))))] ?_))))
   exact zai 6 45 52 g10
  refine ip' 1 0 [(53,bv (p.frm.wrap&&(!decide (p.frm.col=(IntKind.i64.wrap (cols - (1:Int)))))))] ?_
  exact zai 6 41 53 g9
 refine ie ?_
 refine zjb rfl hR ?_ ?_<;>clear hR<;>intro hR h11
 ·have h11p:=h11;try simp at h11p
  refine sr 1 rfl (ip' 1 0 [(6,iv 2)] ?_)
  subst hR
  refine ie (B0 ?_)
  exact F8 hr hD
 have h11p:=h11;try simp at h11p
 refine A9 (nx (sr 1 rfl (ip' 1 0 [(6,iv 0)] ?_)))
 subst hR
 refine ie (B0 ?_)
 exact F8 hr hD
theorem E2z {c r:Int} {s:Sty} (h:A1z c r s=0):2≤c∧c≤80∧1≤r∧r≤40:=by
 unfold A1z at h
 by_cases hb:2≤c∧c≤80∧1≤r∧r≤40
 ·exact hb
 ·rw [show ((((decide (c<2))||(decide ((80:Int)<c)))||(decide (r<1)))||(decide ((40:Int)<r)))=true by simp only [Bool.or_eq_true,decide_eq_true_eq];omega] at h
  exact absurd (show (2:Int)=0 from h) (by decide)
theorem D7p {c r:Int} (h:U2 c r=0):2≤c∧c≤80∧1≤r∧r≤40:=by
 unfold U2 at h
 cases hg:decide (A1z c r Sty.zero=0) with
 | true=>exact E2z (of_decide_eq_true hg)
 | false =>
  rw [hg] at h
  exact absurd (show A1z c r Sty.zero=0 from h) (of_decide_eq_false hg)
theorem C4d {c r:Int} {p:Pth} (h:(!decide (F1 c r p=0))=false):(2≤c∧c≤80∧1≤r∧r≤40)∧(0≤p.frm.row∧p.frm.row<r∧0≤p.frm.col∧p.frm.col<c)∧(0≤p.to_.row∧p.to_.row<r∧0≤p.to_.col∧p.to_.col<c)∧(p.frm.wrap=true→p.frm.col=c - 1):=by
 have h0:F1 c r p=0:=by simpa using h
 unfold F1 at h0
 revert h0
 cases hq:(!decide ((U2 c r)=0)) with
 | true=>intro h0;exact absurd (show (2:Int)=0 from h0) (by decide)
 | false =>
  have hs:=D7p (c:=c) (r:=r) (by simpa using hq)
  cases h1:H8 p.frm.row p.frm.col r c with
  | false=>intro h0;exact absurd (show (2:Int)=0 from h0) (by decide)
  | true =>
   cases h2:H8 p.to_.row p.to_.col r c with
   | false=>intro h0;exact absurd (show (2:Int)=0 from h0) (by decide)
   | true =>
    unfold H8 at h1 h2
    simp only [Bool.and_eq_true,decide_eq_true_eq] at h1 h2
    cases h3:p.frm.wrap with
    | false=>intro _;exact ⟨hs,⟨h1.1.1.1,h1.1.1.2,h1.1.2,h1.2⟩,⟨h2.1.1.1,h2.1.1.2,h2.1.2,h2.2⟩,fun e=>by cases e⟩
    | true =>
     intro h0
     rw [C0a (by show (-9223372036854775808:Int)≤_;omega) (by show _≤(9223372036854775807:Int);omega)] at h0
     refine ⟨hs,⟨h1.1.1.1,h1.1.1.2,h1.1.2,h1.2⟩,⟨h2.1.1.1,h2.1.1.2,h2.1.2,h2.2⟩,fun _=>?_⟩
     by_cases h4:p.frm.col=c - 1
     ·exact h4
     ·rw [decide_eq_false h4] at h0
      exact absurd (show (2:Int)=0 from h0) (by decide)
theorem A7n {c r:Int} {c0:Pth} (h:(!decide (F1 c r c0=0))=false):(0≤c0.frm.row∧c0.frm.row≤40∧0≤c0.to_.row∧c0.to_.row≤40)∧(0≤c0.frm.col∧c0.frm.col≤80∧0≤c0.to_.col∧c0.to_.col≤80):=by
 have:=C4d h;omega
end Go.Proofs.YtanighkpfmgnbaaGreatDoor
set_option linter.unusedVariables false
set_option linter.unusedSimpArgs false
set_option linter.unnecessarySimpa false
set_option maxRecDepth 100000
namespace Go.Proofs.YtanighkpfmgnbaaGreatDoor
open Go Go.Fen
theorem C5n:ApTy Tryz.prog 27 26 6 56:=⟨by kernel_rfl,by kernel_rfl,rfl⟩
theorem A7c:ApTy Tryz.prog 55 27 1 24:=⟨by kernel_rfl,by kernel_rfl,rfl⟩
theorem A2d:SlTy Tryz.prog 55 27 1:=⟨by kernel_rfl,by kernel_rfl⟩
theorem D7r:Ty Tryz.prog 27 1 false:=⟨by kernel_rfl⟩
theorem E3q:Ty Tryz.prog 100 5 true:=⟨by kernel_rfl⟩
def L5 (p:Pth):Pth :=
 p
theorem A9v (p:Pth) (R:Pth) (hR:L5 p=R):Con Tryz.prog 52 [ag (F4 p)] [] [] (Addr) (fun x=>.func (.func 105) #[] #[pa x]) (fun x=>[]) (fun x=>[at_ x (F4 R)]):=by
 refine zco Tryz.func52 [(0,ag (F4 p))] fun X hX hr hD=>?_
 replace hR:=(L5.eq_1 ..).symm.trans hR
 refine sr 2 rfl (it rfl (Z5 (cs:=F4 p) rfl rfl rfl) fun b1=>?_)
 refine A2u 0 rfl ?_
 refine ip' 1 0 [] (ie (sr 2 rfl (ip' 2 0 [(2,.func (.func 105) #[] #[pa (⟨b1,0,none⟩:Addr)])] ?_)))
 subst hR
 refine ie (B0 ?_)
 exact zer hr hD (O3 rfl (B8 rfl)) (⟨b1,0,none⟩:Addr) (mk [] rfl) (A0.con1 (A1 0 rfl) fn0)
def N6 (p:Pth):Pth :=
 p
theorem B8a (p:Pth) (R:Pth) (hR:N6 p=R):Con Tryz.prog 107 [ag (F4 p)] [] [] (Addr) (fun x=>.func (.func 152) #[] #[pa x]) (fun x=>[]) (fun x=>[at_ x (F4 R)]):=by
 refine zco Tryz.func107 [(0,ag (F4 p))] fun X hX hr hD=>?_
 replace hR:=(N6.eq_1 ..).symm.trans hR
 refine sr 2 rfl (it rfl (Z5 (cs:=F4 p) rfl rfl rfl) fun b1=>?_)
 refine A2u 0 rfl ?_
 refine ip' 1 0 [] (ie (sr 2 rfl (ip' 2 0 [(2,.func (.func 152) #[] #[pa (⟨b1,0,none⟩:Addr)])] ?_)))
 subst hR
 refine ie (B0 ?_)
 exact zer hr hD (O3 rfl (B8 rfl)) (⟨b1,0,none⟩:Addr) (mk [] rfl) (A0.con1 (A1 0 rfl) fn0)
def E5g (a:Act):Prop:=a.text=[]∧-1000≤a.n∧a.n≤1000∧-1000≤a.m∧a.m≤1000∧(a.kind=20→0≤a.n∧a.n≤3)
def mwA (e:List Act):Prop:=e.length≤50∧∀ a ∈ e,E5g a
theorem C4o {l:List (List Act)} (h:∀ e ∈ l,mwA e) (k:Nat):(l.getD k []).length≤50:=by
 rw [List.getD_eq_getElem?_getD]
 cases h3:l[k]? with
 | none=>exact Nat.zero_le _
 | some y=>exact (h y (List.mem_of_getElem? h3)).1
theorem D5j {a:Act} (h:E5g a):mwA [a]:=⟨Nat.le_of_ble_eq_true rfl,fun b hb=>by rw [List.mem_singleton.1 hb];exact h⟩
def B2l (e:List Act):Prop:=e.length≤100∧∀ a ∈ e,E5g a
theorem B8h {el:List Act} (h:B2l el):∀ a ∈ el,a.text.length≤100000000:=fun a ha=>by
 rw [(h.2 a ha).1];exact Nat.zero_le _
theorem D6v {el:List Act} {rest:List (List Act)} (h:∀ e ∈ el::rest,B2l e):∀ a ∈ el,a.text.length≤100000000:=B8h (h el (List.mem_cons_self ..))
theorem D7x {l:List (List Act)} (h:∀ e ∈ l,B2l e) (k:Nat):B2l (l.getD k []):=by
 rw [List.getD_eq_getElem?_getD]
 cases h3:l[k]? with
 | none=>exact ⟨Nat.zero_le _,fun a ha=>by cases ha⟩
 | some y=>exact h y (List.mem_of_getElem? h3)
def N7 (n:Int) (m:Int):List Act :=
 ([{Act.zero with kind:=20,n:=n,m:=m}]:List Act)
theorem B5v {n m:Int} (h:0≤n∧n≤3∧0≤m∧m≤1000):mwA (N7 n m) :=
 D5j ⟨rfl,show -1000≤n by omega,show n≤1000 by omega,show -1000≤m by omega,show m≤1000 by omega,fun _=>⟨h.1,h.2.1⟩⟩
theorem A4w (n:Int) (m:Int) (R:List Act) (hR:N7 n m=R):Con Tryz.prog 150 [iv n,iv m] [] [] ({t:Option Addr×Nat // R.length≤t.2∧R.length≤9223372036854775807}) (fun x=>.slice x.1.1 R.length x.1.2) (fun x=>[]) (fun x=>[sl A5 x.1.1 R]):=by
 refine zco Tryz.func150 [(0,iv n),(1,iv m)] fun X hX hr hD=>?_
 replace hR:=(N7.eq_1 ..).symm.trans hR
 refine sr 1 rfl (ip' 1 0 [] (ie (sr 5 rfl (zrl 3 2 [] [(7,ag (A5 ({Act.zero with kind:=20,n:=n,m:=m})))] (it rfl (B3 (c:=A5) (xs:=([{Act.zero with kind:=20,n:=n,m:=m}]:List Act)) A0v rfl rfl rfl (by kernel_rfl)) fun b1=>?_)))))
 have:([{Act.zero with kind:=20,n:=n,m:=m}]:List Act).length=1:=rfl
 refine ip' 1 0 [(4,.slice (some ⟨b1,0,none⟩) 1 1)] ?_
 subst hR
 refine ie (B0 ?_)
 exact zer hr hD (O3 rfl (B8 rfl)) (zq (some ⟨b1,0,none⟩) 1) (mk [] rfl) (A0.con1 (A1 0 rfl) fn0)
def X7 (kind:Int) (times:Int):Nat→List Act→Nat→List Act
 | 0,_,_=>[]
 | fu1+1,out,t7=>(bif (decide ((t7:Int)<times)) then X7 kind times fu1 (out++([{Act.zero with kind:=kind}]:List Act)) (t7+1) else out)
def N4 (kind:Int) (times:Int):List Act :=
 X7 kind times ((times - (0:Int)).toNat+1) ([]:List Act) 0
theorem C4j (kind times:Int):∀ (n t fu:Nat) (out:List Act),(times - t).toNat=n→n<fu→X7 kind times fu out t=out++List.replicate n {Act.zero with kind:=kind}
 | 0,t,fu+1,out,h,_=>by
  rw [X7,decide_eq_false (by omega)];simp
 | n+1,t,fu+1,out,h,hf=>by
  rw [X7,decide_eq_true (by omega)]
  show X7 kind times fu (out++[{Act.zero with kind:=kind}]) (t+1)=_
  rw [C4j kind times n (t+1) fu _ (by omega) (by omega),List.append_assoc];rfl
theorem A4f (kind times:Int):N4 kind times=List.replicate times.toNat {Act.zero with kind:=kind}:=by
 unfold N4;rw [C4j kind times times.toNat 0 _ [] (by omega) (by omega)];rfl
theorem B0p {kind times:Int} {r:List Act} (h:N4 kind times=r) (ht:times≤50):r.length≤50∧mwA r:=by
 subst h;rw [A4f]
 refine ⟨by rw [List.length_replicate];omega,by rw [List.length_replicate];omega,fun a ha=>?_⟩
 rw [List.eq_of_mem_replicate ha];exact ⟨rfl,show (-1000:Int)≤0 by omega,show (0:Int)≤1000 by omega,show (-1000:Int)≤0 by omega,show (0:Int)≤1000 by omega,fun _=>⟨show (0:Int)≤0 by omega,show (0:Int)≤3 by omega⟩⟩
theorem A7u (kind:Int) (times:Int) (htm:times≤50) (R:List Act) (hR:N4 kind times=R):Con Tryz.prog 151 [iv kind,iv times] [] [] ({r:VR // VOk 6 R.length r}) (fun x=>.slice (va x.1.q) R.length x.1.k) (fun x=>((vo A5 26 x.1 R)++([]))) (fun x=>[]):=by
 refine zco Tryz.func151 [(0,iv kind),(1,iv times)] fun X hX hr hD=>?_
 replace hR:=(N4.eq_1 ..).symm.trans hR
 refine sr 1 rfl (ip' 1 0 [] (ie (sr 1 rfl (ip' 1 0 [(5,.slice none 0 0)] (ie (A7 (sr 2 rfl (ip' 2 0 [(6,iv times),(7,iv 0)] (ie (B2 ?_))))))))))
 refine B7z (fun (fu:Nat) (out:List Act) (outr:VR) (t7:Nat)=>((times - (t7:Int)).toNat<fu∧X7 kind times fu out t7=R∧VOk 6 out.length outr∧out.length=t7,[(0,iv kind),(5,.slice (va outr.q) out.length outr.k),(6,iv times),(7,iv (t7:Int))],((vo A5 26 outr out)++([])),[],fu)) ((times - (0:Int)).toNat+1) ([]:List Act) VR.nil 0 ⟨(Nat.lt_succ_self _),hR,VOk.nil,(by rfl)⟩ (mc [vo A5 26 VR.nil ([]:List Act)] [true] rfl (by first|rfl|(simp only [List.length_set]<;>rfl))) fn0 ?_
 rintro fu out outr t7 ⟨hm1,hR,hokoutr,hv⟩
 have:=VOk.le hokoutr
 obtain ⟨fu1,rfl⟩:∃ m,fu=m+1:=⟨fu - 1,by omega⟩
 replace hR:=(X7.eq_2 ..).symm.trans hR
 refine sr 1 rfl (ip' 1 0 [(8,bv (decide ((t7:Int)<times)))] (ie (A7 ?_)))
 refine zjd rfl hR ?_ ?_<;>clear hR<;>intro hR h2 h2p
 ·refine A9 (nx (A7 (B2 (A3 6 rfl (zrl 3 3 [] [(9,.slice (va outr.q) out.length outr.k),(11,ag (A5 ({Act.zero with kind:=kind})))] (it rfl (B3 (c:=A5) (xs:=([{Act.zero with kind:=kind}]:List Act)) A0v rfl rfl rfl (by kernel_rfl)) fun b3=>?_))))))
  have:([{Act.zero with kind:=kind}]:List Act).length=1:=rfl
  refine it rfl (B2g (f:=A5) (r:=outr) (xs:=out) (ys:=([{Act.zero with kind:=kind}]:List Act)) (pre:=[]) (post:=[]) C5n (fun _=>rfl) (fun _=>rfl) rfl rfl rfl rfl rfl rfl rfl rfl rfl (A1 0 rfl) hokoutr (by first|omega|(simp<;>omega)) (by first|omega|(simp<;>omega))) fun ⟨r4,hr5⟩=>?_
  have:=VOk.le hr5
  have:=VOk.cap hr5
  refine ip' 1 0 [(5,.slice (va r4.q) ((out++([{Act.zero with kind:=kind}]:List Act)).length) r4.k)] (A6 (nx (A3 2 rfl (ix rfl (B6 rfl rfl rfl rfl (by omega)) (ip' 1 0 [(7,iv ((t7:Int)+1))] (A6 ?_))))))
  exact B3p (z1:=(fu1+1)) (z2:=out) (z3:=outr) (z4:=t7) fu1 (out++([{Act.zero with kind:=kind}]:List Act)) r4 (t7+1) ⟨(by omega),hR,hr5,(by (simp<;>omega))⟩ (Nat.lt_succ_self _) (mc [vo A5 26 r4 (out++([{Act.zero with kind:=kind}]:List Act))] [true] rfl (by first|rfl|(simp only [List.length_set]<;>rfl))) fn0
 refine J1 (nx (sr 2 rfl (ip' 2 0 [(4,.slice (va outr.q) out.length outr.k)] ?_)))
 subst hR
 refine ie (B0 ?_)
 exact zer hr hD (O3 rfl (B8 rfl)) ⟨outr,hokoutr⟩ (mc [vo A5 26 outr out] [true] rfl (by first|rfl|(simp only [List.length_set]<;>rfl))) fn0
def F7 (c0:Pth):List (List Act) :=
 (bif (decide ((c0.to_.row - c0.frm.row)=0)) then (([]:List Act)::[]) else (bif (decide ((c0.to_.row - c0.frm.row)<0)) then (B5 (N7 0 (-(c0.to_.row - c0.frm.row))) fun (y1:List Act)=>(y1::[])) else (B5 (N7 1 (c0.to_.row - c0.frm.row)) fun (y4:List Act)=>(y4::(bif (decide ((c0.to_.row - c0.frm.row)≤4)) then (B5 (N4 5 (c0.to_.row - c0.frm.row)) fun (y0:List Act)=>(y0::[])) else [])))))
theorem C4r (c0:Pth) (hb:0≤c0.frm.row∧c0.frm.row≤40∧0≤c0.to_.row∧c0.to_.row≤40):∀ e ∈ F7 c0,mwA e:=by
 unfold F7 B5
 intro e he
 rcases Int.lt_trichotomy c0.frm.row c0.to_.row with h | h | h
 ·rw [decide_eq_false (show ¬ c0.to_.row - c0.frm.row=0 by omega),decide_eq_false (show ¬ c0.to_.row - c0.frm.row<0 by omega)] at he
  have he:e ∈ N7 1 (c0.to_.row - c0.frm.row)::(bif decide (c0.to_.row - c0.frm.row≤4) then [N4 5 (c0.to_.row - c0.frm.row)] else []):=he
  rcases List.mem_cons.1 he with rfl | he
  ·exact B5v (by omega)
  ·cases hd:decide (c0.to_.row - c0.frm.row≤4) with
   | true=>rw [hd] at he;rw [List.mem_singleton.1 he];exact (B0p rfl (by omega)).2
   | false=>rw [hd] at he;cases he
 ·rw [decide_eq_true (show c0.to_.row - c0.frm.row=0 by omega)] at he;rw [List.mem_singleton.1 he];exact ⟨Nat.zero_le _,fun a ha=>by cases ha⟩
 ·rw [decide_eq_false (show ¬ c0.to_.row - c0.frm.row=0 by omega),decide_eq_true (show c0.to_.row - c0.frm.row<0 by omega)] at he
  rw [List.mem_singleton.1 he];exact B5v (by omega)
theorem D1j (c0:Pth):(F7 c0).length≤2:=by
 unfold F7 B5;simp only [Bool.cond_eq_ite];repeat' split
 all_goals simp
theorem B5p (c0:Pth) (c0p:Addr) (hb:0≤c0.frm.row∧c0.frm.row≤40∧0≤c0.to_.row∧c0.to_.row≤40) (R:List (List Act)) (hR:F7 c0=R):B5f Tryz.prog 152 [pa c0p] [] [at_ c0p (F4 c0)] A5 R:=by
 refine C4b [] (n:=36) Tryz.func152 rfl (by kernel_rfl) rfl rfl (fun l=>[(0,.func (.yield l) #[] #[]),(1,pa c0p)]) (fun l=>⟨rfl,rfl,trivial⟩) fun X l I Ix L Φ hX hr hD hI0 hY=>?_
 replace hR:=(F7.eq_1 ..).symm.trans hR
 refine sr 8 rfl (ip' 2 6 [(5,pa (c0p.add 3))] (ix rfl (C4 (v:=iv c0.to_.row) (us:=[iv c0.to_.row]) ty3 rfl rfl (U3 (A4e (A1 0 rfl) (ws:=I0 c0.to_) 3 2 rfl) (ws:=[iv c0.to_.row]) 1 rfl) rfl) (ip' 2 3 [(8,pa c0p)] (ix rfl (C4 (v:=iv c0.frm.row) (us:=[iv c0.frm.row]) ty3 rfl rfl (U3 (U3 (A1 0 rfl) (ws:=H2 c0.frm) 3 rfl) (ws:=[iv c0.frm.row]) 1 rfl) rfl) (ix rfl (M6 rfl rfl rfl rfl (by omega)) (ip' 1 0 [(3,iv (c0.to_.row - c0.frm.row))] (ie (B2 (sr 3 rfl (ip' 3 0 [(23,bv (decide ((c0.to_.row - c0.frm.row)=0)))] ?_))))))))))
 refine ie ?_
 refine zjd rfl hR ?_ ?_<;>clear hR<;>intro hR h1 h1p
 ·refine A3 2 rfl (ip' 1 1 [(26,.func (.yield l) #[] #[])] ?_)
  have hq7:=B8q hR;clear hR;obtain ⟨R2,hR,hq7⟩:=hq7;rw [hq7] at hI0
  refine it rfl (A5w (L2:=[]) (hY ([]:List Act) R2 _ _ none 0 (by first|omega|(simp<;>omega)|(dsimp only;omega)|decide) (by first|omega|(simp<;>omega)|(dsimp only;omega)|decide) hI0) rfl rfl rfl rfl (A0.con1 A4u (A0.dropT 1 rfl)) (L9 [L] [0] 1 rfl (by decide) rfl [L] rfl (by simp only [List.flatten_cons,List.flatten_nil,List.append_nil,List.cons_append,List.nil_append,List.append_assoc]))) fun ⟨⟨y3,L4,Φ5⟩,hy6⟩=>?_
  refine A9f (A0.yield [at_ c0p (F4 c0)]) ?_
  subst hR
  refine A6 ?_
  exact Z4 rfl ⟨hr,hD⟩ (by simp [hD]) (B6p rfl) (L':=L4) (Φ':=Φ5) (by cases y3<;>first|exact .inr (by simpa using hy6)|exact .inl (by simpa using hy6)) (mcT [L4] 0 rfl rfl) (A0.dropT 1 rfl)
 refine sr 3 rfl (ip' 3 0 [(28,bv (decide ((c0.to_.row - c0.frm.row)<0)))] (ie ?_))
 refine zjd rfl hR ?_ ?_<;>clear hR<;>intro hR h8 h8p
 ·refine A3 5 rfl (ip' 2 3 [(31,.func (.yield l) #[] #[]),(32,iv (c0.to_.row - c0.frm.row))] (ix rfl (B6c rfl rfl rfl (by omega)) ?_))
  have hQ:=C9 hR;clear hR;obtain ⟨y1,hy1,hR⟩:=hQ
  refine zcm (A4w 0 (-(c0.to_.row - c0.frm.row)) y1 hy1) fn0 fun ⟨⟨q9,k10⟩,hp11⟩=>?_
  obtain ⟨hc12,hl13⟩:=hp11
  have:y1.length=1:=by rw [← hy1];rfl
  have hq19:=B8q hR;clear hR;obtain ⟨R14,hR,hq19⟩:=hq19;rw [hq19] at hI0
  refine it rfl (A5w (L2:=[]) (hY y1 R14 _ _ q9 k10 (by first|omega|(simp<;>omega)|(dsimp only;omega)|decide) (by first|omega|(simp<;>omega)|(dsimp only;omega)|decide) hI0) rfl rfl rfl rfl (A0.con1 (A1 0 rfl) (A0.dropT 2 rfl)) (L9 [L] [0] 1 rfl (by decide) rfl [L] rfl (by simp only [List.flatten_cons,List.flatten_nil,List.append_nil,List.cons_append,List.nil_append,List.append_assoc]))) fun ⟨⟨y15,L16,Φ17⟩,hy18⟩=>?_
  refine A9f (A0.yield [sl A5 q9 y1,at_ c0p (F4 c0)]) ?_
  subst hR
  refine A6 ?_
  exact Z4 rfl ⟨hr,hD⟩ (by simp [hD]) (B6p rfl) (L':=L16) (Φ':=Φ17) (by cases y15<;>first|exact .inr (by simpa using hy18)|exact .inl (by simpa using hy18)) (mcT [L16] 0 rfl rfl) (A0.dropT 2 rfl)
 refine sr 8 rfl (ip' 2 6 [(11,.func (.yield l) #[] #[]),(12,iv (c0.to_.row - c0.frm.row))] ?_)
 have hQ:=C9 hR;clear hR;obtain ⟨y4,hy4,hR⟩:=hQ
 refine zcm (A4w 1 (c0.to_.row - c0.frm.row) y4 hy4) fn0 fun ⟨⟨q20,k21⟩,hp22⟩=>?_
 obtain ⟨hc23,hl24⟩:=hp22
 have:y4.length=1:=by rw [← hy4];rfl
 have hq30:=B8q hR;clear hR;obtain ⟨R25,hR,hq30⟩:=hq30;rw [hq30] at hI0
 refine it rfl (A5w (L2:=[]) (hY y4 R25 _ _ q20 k21 (by first|omega|(simp<;>omega)|(dsimp only;omega)|decide) (by first|omega|(simp<;>omega)|(dsimp only;omega)|decide) hI0) rfl rfl rfl rfl (A0.con1 (A1 0 rfl) (A0.dropT 2 rfl)) (L9 [L] [0] 1 rfl (by decide) rfl [L] rfl (by simp only [List.flatten_cons,List.flatten_nil,List.append_nil,List.cons_append,List.nil_append,List.append_assoc]))) fun ⟨⟨y26,L27,Φ28⟩,hy29⟩=>?_
 refine A9f (A0.yield [sl A5 q20 y4,at_ c0p (F4 c0)]) ?_
 refine ip' 1 3 [(15,bv y26)] ?_
 rcases Bool.eq_false_or_eq_true y26 with g31 | g31
 ·refine D8h (b:=true) 15 rfl (by first|exact g31|(rw [g31];rfl)) ?_
  rw [g31] at hy29;try simp only [if_true,if_false,Bool.false_eq_true] at hy29
  refine ip' 3 0 [(18,bv (decide ((c0.to_.row - c0.frm.row)≤4)))] (ie ?_)
  refine zjd rfl hR ?_ ?_<;>clear hR<;>intro hR h32 h32p
  ·refine A3 4 rfl (ip' 2 2 [(19,.func (.yield l) #[] #[]),(20,iv (c0.to_.row - c0.frm.row))] ?_)
   have hQ:=C9 hR;clear hR;obtain ⟨y0,hy0,hR⟩:=hQ
   refine it rfl (Q6 (L2:=(L27++([]))) (A7u 5 (c0.to_.row - c0.frm.row) (by omega) y0 hy0) rfl rfl rfl rfl rfl fn0 (List.Perm.refl _) (fun ⟨r33,hk34⟩=>(L27++((vo A5 26 r33 y0)++([])))) (fun ⟨r33,hk34⟩=>L9 [vo A5 26 r33 y0,L27] [1,0] 2 rfl (by decide) (by first|rfl|simp) [L27,vo A5 26 r33 y0] rfl (by first|rfl|simp))) fun ⟨r33,hk34⟩=>?_
   have:=VOk.le hk34
   have:=VOk.cap hk34
   have hmqrmotiondoes:=B0p hy0 (by omega)
   have:=hmqrmotiondoes.1;try rw [hy0] at this
   have:=VOk.cap hk34
   have:=VOk.le hk34
   refine A4o (L27++([])) [] (T:=26) (c:=A5) (r:=r33) (xs:=y0) hk34 (by first|rfl|simp only [List.flatten_cons,List.flatten_nil,List.cons_append,List.append_assoc,List.nil_append,List.append_nil]) ?_
   refine C8u (L':=(L27++([]))) (by first|rfl|simp) ?_
   have hq40:=B8q hR;clear hR;obtain ⟨R35,hR,hq40⟩:=hq40;rw [hq40] at hy29
   refine it rfl (A5w (L2:=[]) (hY y0 R35 _ _ (va r33.q) r33.k (by first|omega|(simp<;>omega)|(dsimp only;omega)|decide) (by first|omega|(simp<;>omega)|(dsimp only;omega)|decide) hy29) rfl rfl rfl rfl (A0.con1 (A1 0 rfl) (A0.dropT 3 rfl)) (L9 [L27] [0] 1 rfl (by decide) rfl [L27] rfl (by simp only [List.flatten_cons,List.flatten_nil,List.append_nil,List.cons_append,List.nil_append,List.append_assoc]))) fun ⟨⟨y36,L37,Φ38⟩,hy39⟩=>?_
   refine A9f (A0.yield [sl A5 (va r33.q) y0,sl A5 q20 y4,at_ c0p (F4 c0)]) ?_
   subst hR
   refine A6 ?_
   exact Z4 rfl ⟨hr,hD⟩ (by simp [hD]) (B6p rfl) (L':=L37) (Φ':=Φ38) (by cases y36<;>first|exact .inr (by simpa using hy39)|exact .inl (by simpa using hy39)) (mcT [L37] 0 rfl rfl) (A0.dropT 3 rfl)
  subst hR
  refine A9 ?_
  exact Z4 rfl ⟨hr,hD⟩ (by simp [hD]) (B6p rfl) (L':=L27) (Φ':=Φ28) (by exact .inl hy29) (mcT [L27] 0 rfl rfl) (A0.dropT 2 rfl)
 ·refine D8h (b:=false) 15 rfl (by first|exact g31|(rw [g31];rfl)) ?_
  rw [g31] at hy29;try simp only [if_true,if_false,Bool.false_eq_true] at hy29
  refine ip' 3 0 [(18,bv false)] (ie (A7y rfl (A9 ?_)))
  exact Z4 rfl ⟨hr,hD⟩ (by simp [hD]) (B6p rfl) (L':=L27) (Φ':=Φ28) (by exact .inr hy29) (mcT [L27] 0 rfl rfl) (A0.dropT 2 rfl)
def G7 (p:Pth) (out3:List (List Act)):List (List Act) :=
 (bif (decide (p.to_.col=0)) then (B5 (N4 6 1) fun (y7:List Act)=>(out3++([y7]:List (List Act)))) else (B5 (N4 6 1) fun (y2:List Act)=>(B5 (N7 2 p.to_.col) fun (y8:List Act)=>(out3++([(y2++y8)]:List (List Act))))))
def J2 (p:Pth) (out2:List (List Act)):List (List Act) :=
 (bif ((decide ((p.to_.col - p.frm.col)<0))&&(decide ((-(p.to_.col - p.frm.col))≤4))) then (B5 (N4 3 (-(p.to_.col - p.frm.col))) fun (y0:List Act)=>G7 p (out2++([y0]:List (List Act)))) else G7 p out2)
def G8 (p:Pth) (out1:List (List Act)):List (List Act) :=
 (bif (decide ((p.to_.col - p.frm.col)<0)) then (B5 (N7 3 (-(p.to_.col - p.frm.col))) fun (y4:List Act)=>J2 p (out1++([y4]:List (List Act)))) else J2 p out1)
def J3 (p:Pth) (out:List (List Act)):List (List Act) :=
 (bif (decide ((0:Int)<(p.to_.col - p.frm.col))) then (B5 (N7 2 (p.to_.col - p.frm.col)) fun (y1:List Act)=>G8 p ((out++([([{Act.zero with kind:=22,n:=(p.to_.col+1)}]:List Act)]:List (List Act)))++([y1]:List (List Act)))) else G8 p (out++([([{Act.zero with kind:=22,n:=(p.to_.col+1)}]:List Act)]:List (List Act))))
def H5 (p:Pth):List (List Act) :=
 (bif (decide ((p.to_.col - p.frm.col)=0)) then J3 p (([]:List (List Act))++([([]:List Act)]:List (List Act))) else J3 p ([]:List (List Act)))
theorem B3y (p:Pth) (h0:0≤p.frm.col∧p.frm.col≤80∧0≤p.to_.col∧p.to_.col≤80) (out:List (List Act)) (h:∀ e ∈ out,mwA e):(∀ e ∈ G7 p out,mwA e)∧(G7 p out).length=out.length+1:=by
 have hd:(N4 6 1).length≤50∧mwA (N4 6 1):=B0p rfl (by omega)
 unfold G7 B5
 cases decide (p.to_.col=0) with
 | true=>exact ⟨fun e he=>by rcases List.mem_append.1 he with he | he;exact h e he;rw [List.mem_singleton.1 he];exact hd.2,by simp⟩
 | false =>
  refine ⟨fun e he=>?_,by simp⟩
  rcases List.mem_append.1 he with he | he
  ·exact h e he
  ·rw [List.mem_singleton.1 he]
   refine ⟨?_,fun a ha=>?_⟩
   ·rw [List.length_append,A4f,List.length_replicate];show 1+1≤50;omega
   ·rcases List.mem_append.1 ha with ha | ha
    ·exact hd.2.2 a ha
    ·rw [List.mem_singleton.1 ha];exact (B5v (n:=2) (m:=p.to_.col) (by omega)).2 _ (List.mem_singleton.2 rfl)
theorem B3m (p:Pth) (h0:0≤p.frm.col∧p.frm.col≤80∧0≤p.to_.col∧p.to_.col≤80) (out:List (List Act)) (h:∀ e ∈ out,mwA e):(∀ e ∈ J2 p out,mwA e)∧(J2 p out).length≤out.length+2:=by
 unfold J2 B5
 cases hc:((decide ((p.to_.col - p.frm.col)<0))&&(decide ((-(p.to_.col - p.frm.col))≤4))) with
 | true =>
  simp only [Bool.and_eq_true,decide_eq_true_eq] at hc
  have h1:=B3y p h0 (out++[N4 3 (-(p.to_.col - p.frm.col))]) (fun e he=>by
   rcases List.mem_append.1 he with he | he
   ·exact h e he
   ·rw [List.mem_singleton.1 he];exact (B0p rfl (by omega)).2)
  exact ⟨h1.1,by have:=h1.2;rw [List.length_append] at this;show (G7 p _).length≤_;rw [this];exact Nat.le_refl _⟩
 | false=>exact ⟨(B3y p h0 out h).1,by have:=(B3y p h0 out h).2;show (G7 p _).length≤_;omega⟩
theorem C3d {out:List (List Act)} (h:∀ e ∈ out,mwA e) {x:List Act} (hx:mwA x):∀ e ∈ out++[x],mwA e:=fun e he=>by
 rcases List.mem_append.1 he with he | he
 ·exact h e he
 ·rw [List.mem_singleton.1 he];exact hx
theorem B3q (p:Pth) (h0:0≤p.frm.col∧p.frm.col≤80∧0≤p.to_.col∧p.to_.col≤80) (out:List (List Act)) (h:∀ e ∈ out,mwA e):(∀ e ∈ G8 p out,mwA e)∧(G8 p out).length≤out.length+3:=by
 unfold G8 B5
 cases hq:decide ((p.to_.col - p.frm.col)<0) with
 | true =>
  have h1:=B3m p h0 (out++[N7 3 (-(p.to_.col - p.frm.col))]) (C3d h (B5v (by have:=of_decide_eq_true hq;omega)))
  exact ⟨h1.1,by have:=h1.2;rw [List.length_append] at this;show (J2 p _).length≤_;exact this⟩
 | false=>exact ⟨(B3m p h0 out h).1,by have:=(B3m p h0 out h).2;show (J2 p _).length≤_;omega⟩
theorem B3g (p:Pth) (h0:0≤p.frm.col∧p.frm.col≤80∧0≤p.to_.col∧p.to_.col≤80) (out:List (List Act)) (h:∀ e ∈ out,mwA e):(∀ e ∈ J3 p out,mwA e)∧(J3 p out).length≤out.length+5:=by
 have hc:=C3d h (D5j (a:={Act.zero with kind:=22,n:=p.to_.col+1}) ⟨rfl,show -1000≤p.to_.col+1 by omega,show p.to_.col+1≤1000 by omega,show (-1000:Int)≤0 by omega,show (0:Int)≤1000 by omega,fun h=>absurd (show (22:Int)=20 from h) (by decide)⟩)
 unfold J3 B5
 cases hq:decide ((0:Int)<(p.to_.col - p.frm.col)) with
 | true =>
  have h1:=B3q p h0 _ (C3d hc (B5v (n:=2) (m:=p.to_.col - p.frm.col) (by have:=of_decide_eq_true hq;omega)))
  exact ⟨h1.1,by have:=h1.2;rw [List.length_append,List.length_append] at this;show (G8 p _).length≤_;exact this⟩
 | false=>exact ⟨(B3q p h0 _ hc).1,by have:=(B3q p h0 _ hc).2;rw [List.length_append] at this;show (G8 p _).length≤_;exact Nat.le_trans this (by simp only [List.length_cons,List.length_nil];omega)⟩
theorem C1b {p:Pth} {r:List (List Act)} (hr:H5 p=r) (h0:0≤p.frm.col∧p.frm.col≤80∧0≤p.to_.col∧p.to_.col≤80):(∀ e ∈ r,mwA e)∧r.length≤6:=by
 subst hr;unfold H5
 cases decide ((p.to_.col - p.frm.col)=0) with
 | true=>exact B3g p h0 ([[]]:List (List Act)) (fun e he=>by rw [List.mem_singleton.1 he];exact ⟨Nat.le_of_ble_eq_true rfl,fun a ha=>by cases ha⟩)
 | false=>exact ⟨(B3g p h0 [] (fun e he=>by cases he)).1,Nat.le_trans (B3g p h0 [] (fun e he=>by cases he)).2 (by simp)⟩
theorem B5h (p:Pth) (hb:0≤p.frm.col∧p.frm.col≤80∧0≤p.to_.col∧p.to_.col≤80) (R:List (List Act)) (hR:H5 p=R):Con Tryz.prog 106 [ag (F4 p)] [] [] ({t:VR×List Slc // VOk 1 R.length t.1∧B7 t.2 R}) (fun x=>.slice (va x.1.1.q) R.length x.1.1.k) (fun x=>((vo D0 27 x.1.1 x.1.2)++([]))) (fun x=>[F3 A5 x.1.2 R]):=by
 refine zco Tryz.func106 [(0,ag (F4 p))] fun X hX hr hD=>?_
 replace hR:=(H5.eq_1 ..).symm.trans hR
 refine sr 2 rfl (P1 2 0 [] (fun b1=>[(1,pt b1 0)]) (fun b1=>[bx b1 (F4 p) 100]) (fun b1=>(ie (sr 8 rfl (zrl 6 2 [0,0] [(7,iv p.to_.col),(10,iv p.frm.col)] (ix rfl (M6 rfl rfl rfl rfl (by omega)) (ip' 1 0 [(3,iv (p.to_.col - p.frm.col))] (ie (sr 1 rfl (ip' 1 0 [(4,.slice none 0 0)] ?_))))))))))
 refine ie (C8g (fun (out:List (List Act)) (outr:VR) (outrs:List Slc)=>(J3 p out=R∧VOk 1 out.length outr∧B7 outrs out∧out.length≤1,[(1,pt b1 0),(3,iv (p.to_.col - p.frm.col)),(4,.slice (va outr.q) out.length outr.k)],(bx b1 (F4 p) 100::(vo D0 27 outr outrs)++([])),[F3 A5 outrs out])) ?_ ?_)
 ·refine sr 2 rfl (ip' 2 0 [(13,bv (decide ((p.to_.col - p.frm.col)=0)))] (ie ?_))
  refine zjd rfl hR ?_ ?_<;>clear hR<;>intro hR h2 h2p
  ·refine A3 4 rfl (ip' 1 3 [(14,.slice none 0 0)] (it rfl (B3 (c:=D0) (xs:=([⟨none,0,0⟩]:List Slc)) A2d rfl rfl rfl (by kernel_rfl)) fun b3=>?_))
   have hrows4:B7 ([⟨none,0,0⟩]:List Slc) ([([]:List Act)]:List (List Act)):=(B7.cons ⟨rfl,(by first|omega|(simp<;>omega)|(dsimp only;omega)|decide),(by first|omega|(simp<;>omega)|(dsimp only;omega)|decide)⟩ B7.none)
   refine C3 (q:=F3 A5 ([⟨none,0,0⟩]:List Slc) ([([]:List Act)]:List (List Act))) (N3 A4u H9) ?_
   have:([⟨none,0,0⟩]:List Slc).length=1:=rfl
   refine C3 (q:=F3 A5 [] ([]:List (List Act))) H9 ?_
   have hw7:B7 (([]:List Slc)++([⟨none,0,0⟩]:List Slc)) (([]:List (List Act))++([([]:List Act)]:List (List Act))):=B7.append B7.none hrows4
   refine it rfl (J9 (r:=VR.nil) (rs:=([]:List Slc)) (xss:=([]:List (List Act))) (pre:=[bx b1 (F4 p) 100]) (post:=[]) A7c rfl rfl rfl rfl rfl rfl rfl rfl rfl (A1 2 rfl) (A1 0 rfl) (A1 1 rfl) B7.none hrows4 VOk.nil (by first|omega|(simp<;>omega)) (by first|omega|(simp<;>omega))) fun ⟨r5,hr6⟩=>?_
   have:=VOk.le hr6
   have:=VOk.cap hr6
   have:([]:List (List Act)).length=0:=rfl
   have:([([]:List Act)]:List (List Act)).length=1:=rfl
   have:(([]:List (List Act))++([([]:List Act)]:List (List Act))).length=([]:List (List Act)).length+1:=List.length_append
   refine ip' 1 0 [(4,.slice (va r5.q) ((([]:List (List Act))++([([]:List Act)]:List (List Act))).length) r5.k)] (A6 ?_)
   exact B3a (([]:List (List Act))++([([]:List Act)]:List (List Act))) r5 (([]:List Slc)++([⟨none,0,0⟩]:List Slc)) ⟨hR,hr6,hw7,(by first|omega|(simp<;>omega))⟩ (mc [[bx b1 (F4 p) 100],vo D0 27 r5 (([]:List Slc)++([⟨none,0,0⟩]:List Slc))] [true,true] rfl (by first|rfl|(simp only [List.length_set]<;>rfl))) (A0.pick [0] rfl)
  refine A9 (A2r (L9 [vo D0 27 VR.nil ([]:List Slc),[bx b1 (F4 p) 100]] [1,0] 2 rfl (by decide) rfl [[bx b1 (F4 p) 100],vo D0 27 VR.nil ([]:List Slc)] rfl (by first|rfl|simp)) ?_)
  exact B3a ([]:List (List Act)) VR.nil ([]:List Slc) ⟨hR,VOk.nil,B7.none,(by first|omega|(simp<;>omega))⟩ (mc [[bx b1 (F4 p) 100],vo D0 27 VR.nil ([]:List Slc)] [true,true] rfl (by first|rfl|(simp only [List.length_set]<;>rfl))) (A0.con1 H9 fn0)
 intro out outr outrs
 rintro ⟨hR,hokoutr,hrowsoutrs,hj⟩
 replace hR:=(J3.eq_1 ..).symm.trans hR
 refine sr 10 rfl (zrl 4 6 [0] [(17,.slice (va outr.q) out.length outr.k),(20,iv p.to_.col)] (ix rfl (B6 rfl rfl rfl rfl (by omega)) (zrl 1 4 [] [(22,ag (A5 ({Act.zero with kind:=22,n:=(p.to_.col+1)})))] (it rfl (B3 (c:=A5) (xs:=([{Act.zero with kind:=22,n:=(p.to_.col+1)}]:List Act)) A0v rfl rfl rfl (by kernel_rfl)) fun b8=>?_))))
 have:([{Act.zero with kind:=22,n:=(p.to_.col+1)}]:List Act).length=1:=rfl
 refine it rfl (B3 (c:=D0) (xs:=([⟨some ⟨b8,0,none⟩,1,1⟩]:List Slc)) A2d rfl rfl rfl (by kernel_rfl)) fun b9=>?_
 have hrows10:B7 ([⟨some ⟨b8,0,none⟩,1,1⟩]:List Slc) ([([{Act.zero with kind:=22,n:=(p.to_.col+1)}]:List Act)]:List (List Act)):=(B7.cons ⟨rfl,(by first|omega|(simp<;>omega)|(dsimp only;omega)|decide),(by first|omega|(simp<;>omega)|(dsimp only;omega)|decide)⟩ B7.none)
 refine C3 (q:=F3 A5 ([⟨some ⟨b8,0,none⟩,1,1⟩]:List Slc) ([([{Act.zero with kind:=22,n:=(p.to_.col+1)}]:List Act)]:List (List Act))) (N3 (A1 1 rfl) H9) ?_
 have:([⟨some ⟨b8,0,none⟩,1,1⟩]:List Slc).length=1:=rfl
 have hw13:B7 (outrs++([⟨some ⟨b8,0,none⟩,1,1⟩]:List Slc)) (out++([([{Act.zero with kind:=22,n:=(p.to_.col+1)}]:List Act)]:List (List Act))):=B7.append hrowsoutrs hrows10
 refine it rfl (J9 (r:=outr) (rs:=outrs) (xss:=out) (pre:=[bx b1 (F4 p) 100]) (post:=[]) A7c rfl rfl rfl rfl rfl rfl rfl rfl rfl (A1 1 rfl) (A1 3 rfl) (A1 0 rfl) hrowsoutrs hrows10 hokoutr (by first|omega|(simp<;>omega)) (by first|omega|(simp<;>omega))) fun ⟨r11,hr12⟩=>?_
 have:=VOk.le hr12
 have:=VOk.cap hr12
 have:([([{Act.zero with kind:=22,n:=(p.to_.col+1)}]:List Act)]:List (List Act)).length=1:=rfl
 have:(out++([([{Act.zero with kind:=22,n:=(p.to_.col+1)}]:List Act)]:List (List Act))).length=out.length+1:=List.length_append
 refine ip' 1 0 [(4,.slice (va r11.q) ((out++([([{Act.zero with kind:=22,n:=(p.to_.col+1)}]:List Act)]:List (List Act))).length) r11.k)] ?_
 refine ie (C8g (fun (out1:List (List Act)) (outr1:VR) (outrs1:List Slc)=>(G8 p out1=R∧VOk 1 out1.length outr1∧B7 outrs1 out1∧out1.length≤3,[(1,pt b1 0),(3,iv (p.to_.col - p.frm.col)),(4,.slice (va outr1.q) out1.length outr1.k)],(bx b1 (F4 p) 100::(vo D0 27 outr1 outrs1)++([])),[F3 A5 (outrs++([⟨some ⟨b8,0,none⟩,1,1⟩]:List Slc)) (out++([([{Act.zero with kind:=22,n:=(p.to_.col+1)}]:List Act)]:List (List Act))),F3 A5 ([⟨some ⟨b8,0,none⟩,1,1⟩]:List Slc) ([([{Act.zero with kind:=22,n:=(p.to_.col+1)}]:List Act)]:List (List Act)),sl D0 (some ⟨b9,0,none⟩) ([⟨some ⟨b8,0,none⟩,1,1⟩]:List Slc),sl A5 (some ⟨b8,0,none⟩) ([{Act.zero with kind:=22,n:=(p.to_.col+1)}]:List Act),F3 A5 outrs out,F3 A5 outrs1 out1])) ?_ ?_)
 ·refine sr 2 rfl (ip' 2 0 [(27,bv (decide ((0:Int)<(p.to_.col - p.frm.col))))] (ie ?_))
  refine zjd rfl hR ?_ ?_<;>clear hR<;>intro hR h14 h14p
  ·refine A3 6 rfl (ip' 2 4 [(28,.slice (va r11.q) ((out++([([{Act.zero with kind:=22,n:=(p.to_.col+1)}]:List Act)]:List (List Act))).length) r11.k),(29,iv (p.to_.col - p.frm.col))] ?_)
   have hQ:=C9 hR;clear hR;obtain ⟨y1,hy1,hR⟩:=hQ
   refine zcm (A4w 2 (p.to_.col - p.frm.col) y1 hy1) fn0 fun ⟨⟨q15,k16⟩,hp17⟩=>?_
   obtain ⟨hc18,hl19⟩:=hp17
   have:y1.length=1:=by rw [← hy1];rfl
   refine it rfl (B3 (c:=D0) (xs:=([⟨q15,y1.length,k16⟩]:List Slc)) A2d rfl rfl rfl (by kernel_rfl)) fun b20=>?_
   have hrows21:B7 ([⟨q15,y1.length,k16⟩]:List Slc) ([y1]:List (List Act)):=(B7.cons ⟨rfl,(by first|omega|(simp<;>omega)|(dsimp only;omega)|decide),(by first|omega|(simp<;>omega)|(dsimp only;omega)|decide)⟩ B7.none)
   refine C3 (q:=F3 A5 ([⟨q15,y1.length,k16⟩]:List Slc) ([y1]:List (List Act))) (N3 (A1 1 rfl) H9) ?_
   have:([⟨q15,y1.length,k16⟩]:List Slc).length=1:=rfl
   have hw24:B7 ((outrs++([⟨some ⟨b8,0,none⟩,1,1⟩]:List Slc))++([⟨q15,y1.length,k16⟩]:List Slc)) ((out++([([{Act.zero with kind:=22,n:=(p.to_.col+1)}]:List Act)]:List (List Act)))++([y1]:List (List Act))):=B7.append hw13 hrows21
   refine it rfl (J9 (r:=r11) (rs:=(outrs++([⟨some ⟨b8,0,none⟩,1,1⟩]:List Slc))) (xss:=(out++([([{Act.zero with kind:=22,n:=(p.to_.col+1)}]:List Act)]:List (List Act)))) (pre:=[bx b1 (F4 p) 100]) (post:=[]) A7c rfl rfl rfl rfl rfl rfl rfl rfl rfl (A1 1 rfl) (A1 3 rfl) (A1 0 rfl) hw13 hrows21 hr12 (by first|omega|(simp<;>omega)) (by first|omega|(simp<;>omega))) fun ⟨r22,hr23⟩=>?_
   have:=VOk.le hr23
   have:=VOk.cap hr23
   have:([y1]:List (List Act)).length=1:=rfl
   have:((out++([([{Act.zero with kind:=22,n:=(p.to_.col+1)}]:List Act)]:List (List Act)))++([y1]:List (List Act))).length=(out++([([{Act.zero with kind:=22,n:=(p.to_.col+1)}]:List Act)]:List (List Act))).length+1:=List.length_append
   refine ip' 1 0 [(4,.slice (va r22.q) (((out++([([{Act.zero with kind:=22,n:=(p.to_.col+1)}]:List Act)]:List (List Act)))++([y1]:List (List Act))).length) r22.k)] (A6 ?_)
   exact B3a ((out++([([{Act.zero with kind:=22,n:=(p.to_.col+1)}]:List Act)]:List (List Act)))++([y1]:List (List Act))) r22 ((outrs++([⟨some ⟨b8,0,none⟩,1,1⟩]:List Slc))++([⟨q15,y1.length,k16⟩]:List Slc)) ⟨hR,hr23,hw24,(by first|omega|(simp<;>omega))⟩ (mc [[bx b1 (F4 p) 100],vo D0 27 r22 ((outrs++([⟨some ⟨b8,0,none⟩,1,1⟩]:List Slc))++([⟨q15,y1.length,k16⟩]:List Slc))] [true,true] rfl (by first|rfl|(simp only [List.length_set]<;>rfl))) (A0.pick [4,5,6,7,8,0] rfl)
  refine A9 ?_
  exact B3a (out++([([{Act.zero with kind:=22,n:=(p.to_.col+1)}]:List Act)]:List (List Act))) r11 (outrs++([⟨some ⟨b8,0,none⟩,1,1⟩]:List Slc)) ⟨hR,hr12,hw13,(by first|omega|(simp<;>omega))⟩ (mc [[bx b1 (F4 p) 100],vo D0 27 r11 (outrs++([⟨some ⟨b8,0,none⟩,1,1⟩]:List Slc))] [true,true] rfl (by first|rfl|(simp only [List.length_set]<;>rfl))) (A0.pick [0,1,2,3,4,0] rfl)
 intro out1 outr1 outrs1
 rintro ⟨hR,hokoutr1,hrowsoutrs1,hj⟩
 replace hR:=(G8.eq_1 ..).symm.trans hR
 refine C8g (fun (out2:List (List Act)) (outr2:VR) (outrs2:List Slc)=>(J2 p out2=R∧VOk 1 out2.length outr2∧B7 outrs2 out2∧out2.length≤4,[(1,pt b1 0),(3,iv (p.to_.col - p.frm.col)),(4,.slice (va outr2.q) out2.length outr2.k)],(bx b1 (F4 p) 100::(vo D0 27 outr2 outrs2)++([])),[F3 A5 (outrs++([⟨some ⟨b8,0,none⟩,1,1⟩]:List Slc)) (out++([([{Act.zero with kind:=22,n:=(p.to_.col+1)}]:List Act)]:List (List Act))),F3 A5 ([⟨some ⟨b8,0,none⟩,1,1⟩]:List Slc) ([([{Act.zero with kind:=22,n:=(p.to_.col+1)}]:List Act)]:List (List Act)),sl D0 (some ⟨b9,0,none⟩) ([⟨some ⟨b8,0,none⟩,1,1⟩]:List Slc),sl A5 (some ⟨b8,0,none⟩) ([{Act.zero with kind:=22,n:=(p.to_.col+1)}]:List Act),F3 A5 outrs out,F3 A5 outrs1 out1,F3 A5 outrs2 out2])) ?_ ?_
 ·refine sr 2 rfl (ip' 2 0 [(34,bv (decide ((p.to_.col - p.frm.col)<0)))] (ie ?_))
  refine zjd rfl hR ?_ ?_<;>clear hR<;>intro hR h25 h25p
  ·refine A3 7 rfl (ip' 2 5 [(35,.slice (va outr1.q) out1.length outr1.k),(36,iv (p.to_.col - p.frm.col))] (ix rfl (B6c rfl rfl rfl (by omega)) ?_))
   have hQ:=C9 hR;clear hR;obtain ⟨y4,hy4,hR⟩:=hQ
   refine zcm (A4w 3 (-(p.to_.col - p.frm.col)) y4 hy4) fn0 fun ⟨⟨q26,k27⟩,hp28⟩=>?_
   obtain ⟨hc29,hl30⟩:=hp28
   have:y4.length=1:=by rw [← hy4];rfl
   refine it rfl (B3 (c:=D0) (xs:=([⟨q26,y4.length,k27⟩]:List Slc)) A2d rfl rfl rfl (by kernel_rfl)) fun b31=>?_
   have hrows32:B7 ([⟨q26,y4.length,k27⟩]:List Slc) ([y4]:List (List Act)):=(B7.cons ⟨rfl,(by first|omega|(simp<;>omega)|(dsimp only;omega)|decide),(by first|omega|(simp<;>omega)|(dsimp only;omega)|decide)⟩ B7.none)
   refine C3 (q:=F3 A5 ([⟨q26,y4.length,k27⟩]:List Slc) ([y4]:List (List Act))) (N3 (A1 1 rfl) H9) ?_
   have:([⟨q26,y4.length,k27⟩]:List Slc).length=1:=rfl
   have hw35:B7 (outrs1++([⟨q26,y4.length,k27⟩]:List Slc)) (out1++([y4]:List (List Act))):=B7.append hrowsoutrs1 hrows32
   refine it rfl (J9 (r:=outr1) (rs:=outrs1) (xss:=out1) (pre:=[bx b1 (F4 p) 100]) (post:=[]) A7c rfl rfl rfl rfl rfl rfl rfl rfl rfl (A1 1 rfl) (A1 8 rfl) (A1 0 rfl) hrowsoutrs1 hrows32 hokoutr1 (by first|omega|(simp<;>omega)) (by first|omega|(simp<;>omega))) fun ⟨r33,hr34⟩=>?_
   have:=VOk.le hr34
   have:=VOk.cap hr34
   have:([y4]:List (List Act)).length=1:=rfl
   have:(out1++([y4]:List (List Act))).length=out1.length+1:=List.length_append
   refine ip' 1 0 [(4,.slice (va r33.q) ((out1++([y4]:List (List Act))).length) r33.k)] (A6 ?_)
   exact B3a (out1++([y4]:List (List Act))) r33 (outrs1++([⟨q26,y4.length,k27⟩]:List Slc)) ⟨hR,hr34,hw35,(by first|omega|(simp<;>omega))⟩ (mc [[bx b1 (F4 p) 100],vo D0 27 r33 (outrs1++([⟨q26,y4.length,k27⟩]:List Slc))] [true,true] rfl (by first|rfl|(simp only [List.length_set]<;>rfl))) (A0.pick [4,5,6,7,8,9,0] rfl)
  refine A9 ?_
  exact B3a out1 outr1 outrs1 ⟨hR,hokoutr1,hrowsoutrs1,(by first|omega|(simp<;>omega))⟩ (mc [[bx b1 (F4 p) 100],vo D0 27 outr1 outrs1] [true,true] rfl (by first|rfl|(simp only [List.length_set]<;>rfl))) (A0.pick [0,1,2,3,4,5,5] rfl)
 intro out2 outr2 outrs2
 rintro ⟨hR,hokoutr2,hrowsoutrs2,hj⟩
 replace hR:=(J2.eq_1 ..).symm.trans hR
 refine C8g (fun (out3:List (List Act)) (outr3:VR) (outrs3:List Slc)=>(G7 p out3=R∧VOk 1 out3.length outr3∧B7 outrs3 out3∧out3.length≤5,[(1,pt b1 0),(4,.slice (va outr3.q) out3.length outr3.k)],(bx b1 (F4 p) 100::(vo D0 27 outr3 outrs3)++([])),[F3 A5 (outrs++([⟨some ⟨b8,0,none⟩,1,1⟩]:List Slc)) (out++([([{Act.zero with kind:=22,n:=(p.to_.col+1)}]:List Act)]:List (List Act))),F3 A5 ([⟨some ⟨b8,0,none⟩,1,1⟩]:List Slc) ([([{Act.zero with kind:=22,n:=(p.to_.col+1)}]:List Act)]:List (List Act)),sl D0 (some ⟨b9,0,none⟩) ([⟨some ⟨b8,0,none⟩,1,1⟩]:List Slc),sl A5 (some ⟨b8,0,none⟩) ([{Act.zero with kind:=22,n:=(p.to_.col+1)}]:List Act),F3 A5 outrs out,F3 A5 outrs1 out1,F3 A5 outrs2 out2,F3 A5 outrs3 out3])) ?_ ?_
 ·refine sr 7 rfl (ip' 3 4 [(43,bv (decide ((p.to_.col - p.frm.col)<0)))] ?_)
  refine zid 4 0 43 47 (decide ((-(p.to_.col - p.frm.col))≤4)) (fun g36 g36p=>?_) ?_
  ·refine ip' 1 3 [(44,iv (p.to_.col - p.frm.col))] (ix rfl (B6c rfl rfl rfl (by omega)) (ip' 2 0 [(47,bv (decide ((-(p.to_.col - p.frm.col))≤4)))] ?_))
   exact A6 (Q2 4 43 47 g36 A0.refl (mc [[bx b1 (F4 p) 100],vo D0 27 outr2 outrs2] [true,true] rfl (by first|rfl|(simp only [List.length_set]<;>rfl))) rfl rfl rfl rfl rfl)
  refine ie ?_
  refine zja rfl hR ?_ ?_<;>clear hR<;>intro hR h37 h37p
  ·refine A3 7 rfl (ip' 2 5 [(48,.slice (va outr2.q) out2.length outr2.k),(49,iv (p.to_.col - p.frm.col))] (ix rfl (B6c rfl rfl rfl (by omega)) ?_))
   have hQ:=C9 hR;clear hR;obtain ⟨y0,hy0,hR⟩:=hQ
   refine it rfl (Q6 (L2:=(bx b1 (F4 p) 100::(vo D0 27 outr2 outrs2)++([]))) (A7u 3 (-(p.to_.col - p.frm.col)) (by omega) y0 hy0) rfl rfl rfl rfl rfl fn0 (List.Perm.refl _) (fun ⟨r38,hk39⟩=>(bx b1 (F4 p) 100::(vo A5 26 r38 y0)++((vo D0 27 outr2 outrs2)++([])))) (fun ⟨r38,hk39⟩=>L9 [vo A5 26 r38 y0,[bx b1 (F4 p) 100],vo D0 27 outr2 outrs2] [1,0,2] 3 rfl (by decide) (by first|rfl|simp) [[bx b1 (F4 p) 100],vo A5 26 r38 y0,vo D0 27 outr2 outrs2] rfl (by first|rfl|simp))) fun ⟨r38,hk39⟩=>?_
   have:=VOk.le hk39
   have:=VOk.cap hk39
   have hmqrmotiondoes:=B0p hy0 (by omega)
   have:=hmqrmotiondoes.1;try rw [hy0] at this
   have:=VOk.cap hk39
   have:=VOk.le hk39
   refine A4o [bx b1 (F4 p) 100] ((vo D0 27 outr2 outrs2)++([])) (T:=26) (c:=A5) (r:=r38) (xs:=y0) hk39 (by first|rfl|simp only [List.flatten_cons,List.flatten_nil,List.cons_append,List.append_assoc,List.nil_append,List.append_nil]) ?_
   refine it rfl (B3 (c:=D0) (xs:=([⟨va r38.q,y0.length,r38.k⟩]:List Slc)) A2d rfl rfl rfl (by kernel_rfl)) fun b40=>?_
   have hrows41:B7 ([⟨va r38.q,y0.length,r38.k⟩]:List Slc) ([y0]:List (List Act)):=(B7.cons ⟨rfl,(by first|omega|(simp<;>omega)|(dsimp only;omega)|decide),(by first|omega|(simp<;>omega)|(dsimp only;omega)|decide)⟩ B7.none)
   refine C3 (q:=F3 A5 ([⟨va r38.q,y0.length,r38.k⟩]:List Slc) ([y0]:List (List Act))) (N3 (A1 1 rfl) H9) ?_
   have:([⟨va r38.q,y0.length,r38.k⟩]:List Slc).length=1:=rfl
   have hw44:B7 (outrs2++([⟨va r38.q,y0.length,r38.k⟩]:List Slc)) (out2++([y0]:List (List Act))):=B7.append hrowsoutrs2 hrows41
   refine it rfl (J9 (r:=outr2) (rs:=outrs2) (xss:=out2) (pre:=[bx b1 (F4 p) 100]) (post:=[]) A7c rfl rfl rfl rfl rfl rfl rfl rfl rfl (A1 1 rfl) (A1 9 rfl) (A1 0 rfl) hrowsoutrs2 hrows41 hokoutr2 (by first|omega|(simp<;>omega)) (by first|omega|(simp<;>omega))) fun ⟨r42,hr43⟩=>?_
   have:=VOk.le hr43
   have:=VOk.cap hr43
   have:([y0]:List (List Act)).length=1:=rfl
   have:(out2++([y0]:List (List Act))).length=out2.length+1:=List.length_append
   refine ip' 1 0 [(4,.slice (va r42.q) ((out2++([y0]:List (List Act))).length) r42.k)] (A6 ?_)
   exact B3a (out2++([y0]:List (List Act))) r42 (outrs2++([⟨va r38.q,y0.length,r38.k⟩]:List Slc)) ⟨hR,hr43,hw44,(by first|omega|(simp<;>omega))⟩ (mc [[bx b1 (F4 p) 100],vo D0 27 r42 (outrs2++([⟨va r38.q,y0.length,r38.k⟩]:List Slc))] [true,true] rfl (by first|rfl|(simp only [List.length_set]<;>rfl))) (A0.pick [4,5,6,7,8,9,10,0] rfl)
  refine A9 ?_
  exact B3a out2 outr2 outrs2 ⟨hR,hokoutr2,hrowsoutrs2,(by first|omega|(simp<;>omega))⟩ (mc [[bx b1 (F4 p) 100],vo D0 27 outr2 outrs2] [true,true] rfl (by first|rfl|(simp only [List.length_set]<;>rfl))) (A0.pick [0,1,2,3,4,5,6,6] rfl)
 intro out3 outr3 outrs3
 rintro ⟨hR,hokoutr3,hrowsoutrs3,hj⟩
 replace hR:=(G7.eq_1 ..).symm.trans hR
 refine A7 (sr 4 rfl (zrl 4 0 [0] [(57,bv (decide (p.to_.col=0)))] ?_))
 refine ie ?_
 refine zjd rfl hR ?_ ?_<;>clear hR<;>intro hR h45 h45p
 ·refine sr 5 rfl (ip' 1 4 [(58,.slice (va outr3.q) out3.length outr3.k)] ?_)
  have hQ:=C9 hR;clear hR;obtain ⟨y7,hy7,hR⟩:=hQ
  refine it rfl (Q6 (L2:=(bx b1 (F4 p) 100::(vo D0 27 outr3 outrs3)++([]))) (A7u 6 1 (by omega) y7 hy7) rfl rfl rfl rfl rfl fn0 (List.Perm.refl _) (fun ⟨r46,hk47⟩=>(bx b1 (F4 p) 100::(vo A5 26 r46 y7)++((vo D0 27 outr3 outrs3)++([])))) (fun ⟨r46,hk47⟩=>L9 [vo A5 26 r46 y7,[bx b1 (F4 p) 100],vo D0 27 outr3 outrs3] [1,0,2] 3 rfl (by decide) (by first|rfl|simp) [[bx b1 (F4 p) 100],vo A5 26 r46 y7,vo D0 27 outr3 outrs3] rfl (by first|rfl|simp))) fun ⟨r46,hk47⟩=>?_
  have:=VOk.le hk47
  have:=VOk.cap hk47
  have hmqrmotiondoes1:=B0p hy7 (by omega)
  have:=hmqrmotiondoes1.1;try rw [hy7] at this
  have:=VOk.cap hk47
  have:=VOk.le hk47
  refine A4o [bx b1 (F4 p) 100] ((vo D0 27 outr3 outrs3)++([])) (T:=26) (c:=A5) (r:=r46) (xs:=y7) hk47 (by first|rfl|simp only [List.flatten_cons,List.flatten_nil,List.cons_append,List.append_assoc,List.nil_append,List.append_nil]) ?_
  refine it rfl (B3 (c:=D0) (xs:=([⟨va r46.q,y7.length,r46.k⟩]:List Slc)) A2d rfl rfl rfl (by kernel_rfl)) fun b48=>?_
  have hrows49:B7 ([⟨va r46.q,y7.length,r46.k⟩]:List Slc) ([y7]:List (List Act)):=(B7.cons ⟨rfl,(by first|omega|(simp<;>omega)|(dsimp only;omega)|decide),(by first|omega|(simp<;>omega)|(dsimp only;omega)|decide)⟩ B7.none)
  refine C3 (q:=F3 A5 ([⟨va r46.q,y7.length,r46.k⟩]:List Slc) ([y7]:List (List Act))) (N3 (A1 1 rfl) H9) ?_
  have:([⟨va r46.q,y7.length,r46.k⟩]:List Slc).length=1:=rfl
  have hw52:B7 (outrs3++([⟨va r46.q,y7.length,r46.k⟩]:List Slc)) (out3++([y7]:List (List Act))):=B7.append hrowsoutrs3 hrows49
  refine it rfl (J9 (r:=outr3) (rs:=outrs3) (xss:=out3) (pre:=[bx b1 (F4 p) 100]) (post:=[]) A7c rfl rfl rfl rfl rfl rfl rfl rfl rfl (A1 1 rfl) (A1 10 rfl) (A1 0 rfl) hrowsoutrs3 hrows49 hokoutr3 (by first|omega|(simp<;>omega)) (by first|omega|(simp<;>omega))) fun ⟨r50,hr51⟩=>?_
  have:=VOk.le hr51
  have:=VOk.cap hr51
  have:([y7]:List (List Act)).length=1:=rfl
  have:(out3++([y7]:List (List Act))).length=out3.length+1:=List.length_append
  refine ip' 1 0 [(2,.slice (va r50.q) ((out3++([y7]:List (List Act))).length) r50.k)] ?_
  subst hR
  refine ie (B0 ?_)
  exact zer hr hD (O3 rfl (B8 rfl)) ⟨(r50,(outrs3++([⟨va r46.q,y7.length,r46.k⟩]:List Slc))),⟨hr51,hw52⟩⟩ (mc [[bx b1 (F4 p) 100],vo D0 27 r50 (outrs3++([⟨va r46.q,y7.length,r46.k⟩]:List Slc))] [false,true] rfl (by first|rfl|(simp only [List.length_set]<;>rfl))) (A0.con1 (A1 0 rfl) fn0)
 refine A9 (nx ?_)
 refine sh 10 [(10,[bx b1 (F4 p) 100]),(8,vo D0 27 outr3 outrs3)] [F3 A5 (outrs++([⟨some ⟨b8,0,none⟩,1,1⟩]:List Slc)) (out++([([{Act.zero with kind:=22,n:=(p.to_.col+1)}]:List Act)]:List (List Act))),F3 A5 ([⟨some ⟨b8,0,none⟩,1,1⟩]:List Slc) ([([{Act.zero with kind:=22,n:=(p.to_.col+1)}]:List Act)]:List (List Act)),sl D0 (some ⟨b9,0,none⟩) ([⟨some ⟨b8,0,none⟩,1,1⟩]:List Slc),sl A5 (some ⟨b8,0,none⟩) ([{Act.zero with kind:=22,n:=(p.to_.col+1)}]:List Act),F3 A5 outrs out,F3 A5 outrs1 out1,F3 A5 outrs2 out2,F3 A5 outrs3 out3] (bx b1 (F4 p) 100::(vo D0 27 outr3 outrs3)++([])) (zml 10 0) (by kernel_rfl) rfl (by kernel_rfl) (by kernel_rfl) (by kernel_rfl) (mc [[bx b1 (F4 p) 100],vo D0 27 outr3 outrs3] [true,true] rfl (by first|rfl|(simp only [List.length_set]<;>rfl))) A0.refl ?_
 refine zhp [0,2,3] 7 (zml 10 13) [(62,.slice (va outr3.q) out3.length outr3.k),(65,pt b1 4)] ?_
 refine zhl 4 [bx b1 (F4 p) 100] (zml 10 29) rfl (B4 (v:=iv p.to_.col) ty3 rfl rfl 0 rfl rfl) ?_
 have hQ:=C9 hR;clear hR;obtain ⟨y2,hy2,hR⟩:=hQ
 refine zho 1 (bx b1 (F4 p) 100::(vo D0 27 outr3 outrs3)++([])) (zml 10 31) rfl (Q6 (L2:=(bx b1 (F4 p) 100::(vo D0 27 outr3 outrs3)++([]))) (A7u 6 1 (by omega) y2 hy2) rfl rfl rfl rfl rfl fn0 (List.Perm.refl _) (fun ⟨r53,hk54⟩=>(bx b1 (F4 p) 100::(vo A5 26 r53 y2)++((vo D0 27 outr3 outrs3)++([])))) (fun ⟨r53,hk54⟩=>L9 [vo A5 26 r53 y2,[bx b1 (F4 p) 100],vo D0 27 outr3 outrs3] [1,0,2] 3 rfl (by decide) (by first|rfl|simp) [[bx b1 (F4 p) 100],vo A5 26 r53 y2,vo D0 27 outr3 outrs3] rfl (by first|rfl|simp))) (fun ⟨r53,hk54⟩=>(mc [[bx b1 (F4 p) 100],vo A5 26 r53 y2,vo D0 27 outr3 outrs3] [true,false,true] rfl (by first|rfl|(simp only [List.length_set]<;>rfl)))) (fun ⟨r53,hk54⟩=>A0.refl) fun ⟨r53,hk54⟩=>?_
 have:=VOk.le hk54
 have:=VOk.cap hk54
 have hmqrmotiondoes2:=B0p hy2 (by omega)
 have:=hmqrmotiondoes2.1;try rw [hy2] at this
 have hQ:=C9 hR;clear hR;obtain ⟨y8,hy8,hR⟩:=hQ
 refine zho 5 (bx b1 (F4 p) 100::(vo D0 27 outr3 outrs3)++([])) (zml 10 63) rfl (C2 (L2:=(bx b1 (F4 p) 100::(vo A5 26 r53 y2)++((vo D0 27 outr3 outrs3)++([])))) (A4w 2 p.to_.col y8 hy8) rfl rfl rfl rfl rfl fn0 (List.Perm.refl _) (fun ⟨⟨q55,k56⟩,hp57⟩=>(bx b1 (F4 p) 100::(vo A5 26 r53 y2)++((vo D0 27 outr3 outrs3)++([])))) (fun _=>by first|rfl|simp)) (fun ⟨⟨q55,k56⟩,hp57⟩=>(mc [[bx b1 (F4 p) 100],vo A5 26 r53 y2,vo D0 27 outr3 outrs3] [true,false,true] rfl (by first|rfl|(simp only [List.length_set]<;>rfl)))) (fun ⟨⟨q55,k56⟩,hp57⟩=>(A0.pick [1,2,3,4,5,6,7,8] rfl)) fun ⟨⟨q55,k56⟩,hp57⟩=>?_
 obtain ⟨hc58,hl59⟩:=hp57
 have:y8.length=1:=by rw [← hy8];rfl
 refine zho 6 (bx b1 (F4 p) 100::(vo D0 27 outr3 outrs3)++([])) (zml 10 127) rfl (B4r (f:=A5) (r:=r53) (xs:=y2) (ys:=y8) (pre:=[bx b1 (F4 p) 100]) (post:=((vo D0 27 outr3 outrs3)++([]))) C5n (fun _=>rfl) (fun _=>rfl) rfl rfl rfl rfl rfl rfl rfl rfl (A1 0 rfl) hk54 (by first|omega|(simp<;>omega)) (by first|omega|(simp<;>omega))) (fun ⟨r60,hr61⟩=>(mc [[bx b1 (F4 p) 100],vo A5 26 r60 (y2++y8),vo D0 27 outr3 outrs3] [true,false,true] rfl (by first|rfl|(simp only [List.length_set]<;>rfl)))) (fun ⟨r60,hr61⟩=>(A0.pick [1,2,3,4,5,6,7,8] rfl)) fun ⟨r60,hr61⟩=>?_
 have:=@List.length_append _ y2 y8
 have:=VOk.le hr61
 have:=VOk.cap hr61
 have:=VOk.cap hr61
 have:=VOk.le hr61
 refine E2e [bx b1 (F4 p) 100] ((vo D0 27 outr3 outrs3)++([])) (T:=26) (c:=A5) (r:=r60) (xs:=(y2++y8)) hr61 (by first|rfl|simp only [List.flatten_cons,List.flatten_nil,List.cons_append,List.append_assoc,List.nil_append,List.append_nil]) (bx b1 (F4 p) 100::(vo D0 27 outr3 outrs3)++([])) rfl (mc [[bx b1 (F4 p) 100],vo D0 27 outr3 outrs3] [true,true] rfl (by first|rfl|(simp only [List.length_set]<;>rfl))) ?_
 refine zho 7 (bx b1 (F4 p) 100::(vo D0 27 outr3 outrs3)++([])) (zml 10 255) rfl (B3 (c:=D0) (xs:=([⟨va r60.q,(y2++y8).length,r60.k⟩]:List Slc)) A2d rfl rfl rfl (by kernel_rfl)) (fun b62=>(mc [[bx b1 (F4 p) 100],vo D0 27 outr3 outrs3] [true,true] rfl (by first|rfl|(simp only [List.length_set]<;>rfl)))) (fun b62=>(A0.pick [3,4,5,6,7,8,9,10] rfl)) fun b62=>?_
 have hrows63:B7 ([⟨va r60.q,(y2++y8).length,r60.k⟩]:List Slc) ([(y2++y8)]:List (List Act)):=(B7.cons ⟨rfl,(by first|omega|(simp<;>omega)|(dsimp only;omega)|decide),(by first|omega|(simp<;>omega)|(dsimp only;omega)|decide)⟩ B7.none)
 refine D8t (q:=F3 A5 ([⟨va r60.q,(y2++y8).length,r60.k⟩]:List Slc) ([(y2++y8)]:List (List Act))) (N3 (A1 1 rfl) H9) ?_
 have:([⟨va r60.q,(y2++y8).length,r60.k⟩]:List Slc).length=1:=rfl
 have hw66:B7 (outrs3++([⟨va r60.q,(y2++y8).length,r60.k⟩]:List Slc)) (out3++([(y2++y8)]:List (List Act))):=B7.append hrowsoutrs3 hrows63
 refine zho 8 [bx b1 (F4 p) 100] (zml 10 511) rfl (J9 (r:=outr3) (rs:=outrs3) (xss:=out3) (pre:=[bx b1 (F4 p) 100]) (post:=[]) A7c rfl rfl rfl rfl rfl rfl rfl rfl rfl (A1 1 rfl) (A1 11 rfl) (A1 0 rfl) hrowsoutrs3 hrows63 hokoutr3 (by first|omega|(simp<;>omega)) (by first|omega|(simp<;>omega))) (fun ⟨r64,hr65⟩=>(mc [[bx b1 (F4 p) 100],vo D0 27 r64 (outrs3++([⟨va r60.q,(y2++y8).length,r60.k⟩]:List Slc))] [true,false] rfl (by first|rfl|(simp only [List.length_set]<;>rfl)))) (fun ⟨r64,hr65⟩=>(A0.pick [5,6,7,8,9,10,11,12] rfl)) fun ⟨r64,hr65⟩=>?_
 have:=VOk.le hr65
 have:=VOk.cap hr65
 have:([(y2++y8)]:List (List Act)).length=1:=rfl
 have:(out3++([(y2++y8)]:List (List Act))).length=out3.length+1:=List.length_append
 refine zhp [9] 0 (zml 10 1023) [(2,.slice (va r64.q) ((out3++([(y2++y8)]:List (List Act))).length) r64.k)] ?_
 refine A8j (by kernel_rfl) ?_
 subst hR
 refine B0 ?_
 exact zer hr hD (O3 rfl (B8 rfl)) ⟨(r64,(outrs3++([⟨va r60.q,(y2++y8).length,r60.k⟩]:List Slc))),⟨hr65,hw66⟩⟩ (mc [[bx b1 (F4 p) 100],vo D0 27 r64 (outrs3++([⟨va r60.q,(y2++y8).length,r60.k⟩]:List Slc))] [false,true] rfl (by first|rfl|(simp only [List.length_set]<;>rfl))) (A0.con1 (A1 0 rfl) fn0)
def F5 (c0:Pth) (el:List Act) (ag_motion_path_ways_1_r0:List (List Act)):List (List Act)→Nat→List (List Act)
 | [],t16=>ag_motion_path_ways_1_r0
 | hd_l2::tl_l2,t16=>(bif ((decide (((el++hd_l2).length:Int)=0))&&c0.frm.wrap) then F5 c0 el ag_motion_path_ways_1_r0 tl_l2 (t16+1) else ((el++hd_l2)::F5 c0 el ag_motion_path_ways_1_r0 tl_l2 (t16+1)))
def C8 (c0:Pth):List (List Act)→List (List Act)
 | []=>(([{Act.zero with kind:=19,n:=(c0.to_.row+1),m:=(c0.to_.col+1)}]:List Act)::[])
 | el::rest=>(B5 (H5 c0) fun (y5:List (List Act))=>F5 c0 el (C8 c0 rest) y5 0)
def F0 (c0:Pth):List (List Act) :=
 C8 c0 (F7 (N6 c0))
theorem C5s (c0:Pth) (el:List Act) (hel:mwA el) (ag:List (List Act)) (hag:∀ e ∈ ag,B2l e):∀ (l:List (List Act)) (h14:∀ e ∈ l,mwA e) (t16:Nat),(∀ e ∈ F5 c0 el ag l t16,B2l e)∧(F5 c0 el ag l t16).length≤l.length+ag.length
 | [],_,t16=>⟨hag,by rw [F5];simp⟩
 | x::l,h14,t16=>by
  have h1:=C5s c0 el hel ag hag l (fun e he=>h14 e (List.mem_cons_of_mem _ he)) (t16+1)
  rw [F5]
  cases ((decide (((el++x).length:Int)=0))&&c0.frm.wrap) with
  | true=>exact ⟨h1.1,by have:=h1.2;simp only [cond_true,List.length_cons];omega⟩
  | false =>
   refine ⟨fun e he=>?_,by have:=h1.2;simp only [cond_false,List.length_cons];omega⟩
   rcases List.mem_cons.1 he with he | he
   ·rw [he]
    have h2:mwA x:=h14 x (List.mem_cons_self ..)
    exact ⟨by rw [List.length_append];have:=hel.1;have:=h2.1;omega,fun a ha=>by rcases List.mem_append.1 ha with ha | ha;exact hel.2 a ha;exact h2.2 a ha⟩
   ·exact h1.1 e he
theorem C5k (c0:Pth) (h0:(0≤c0.frm.row∧c0.frm.row≤40∧0≤c0.to_.row∧c0.to_.row≤40)∧(0≤c0.frm.col∧c0.frm.col≤80∧0≤c0.to_.col∧c0.to_.col≤80)):∀ (l:List (List Act)),(∀ e ∈ l,mwA e)→(∀ e ∈ C8 c0 l,B2l e)∧(C8 c0 l).length≤6 * l.length+1
 | [],_=>⟨fun e he=>by
   rw [C8] at he
   rw [List.mem_singleton.1 he];exact ⟨Nat.le_of_ble_eq_true rfl,fun a ha=>by rw [List.mem_singleton.1 ha];exact ⟨rfl,show -1000≤c0.to_.row+1 by omega,show c0.to_.row+1≤1000 by omega,show -1000≤c0.to_.col+1 by omega,show c0.to_.col+1≤1000 by omega,fun h=>absurd (show (19:Int)=20 from h) (by decide)⟩⟩,by rw [C8];exact Nat.le_refl _⟩
 | el::rest,h=>by
  have h1:=C5k c0 h0 rest (fun e he=>h e (List.mem_cons_of_mem _ he))
  have h2:=C1b (p:=c0) rfl h0.2
  have h3:=C5s c0 el (h el (List.mem_cons_self ..)) _ h1.1 (H5 c0) h2.1 0
  rw [C8];unfold B5
  exact ⟨h3.1,by have:=h3.2;have:=h1.2;have:=h2.2;simp only [List.length_cons];omega⟩
theorem A9i {c0:Pth} (hb:(0≤c0.frm.row∧c0.frm.row≤40∧0≤c0.to_.row∧c0.to_.row≤40)∧(0≤c0.frm.col∧c0.frm.col≤80∧0≤c0.to_.col∧c0.to_.col≤80)):(∀ e ∈ F0 c0,B2l e)∧(F0 c0).length≤13:=by
 have h:=C5k c0 hb (F7 c0) (C4r c0 hb.1)
 have:=D1j c0
 exact ⟨h.1,by have:=h.2;show (C8 c0 (F7 c0)).length≤13;omega⟩
theorem A8i (c0:Pth) (c0p:Addr) (hb:(0≤c0.frm.row∧c0.frm.row≤40∧0≤c0.to_.row∧c0.to_.row≤40)∧(0≤c0.frm.col∧c0.frm.col≤80∧0≤c0.to_.col∧c0.to_.col≤80)) (R:List (List Act)) (hR:F0 c0=R):B5f Tryz.prog 105 [pa c0p] [] [at_ c0p (F4 c0)] A5 R:=by
 refine C4b [] (n:=53) Tryz.func105 rfl (by kernel_rfl) rfl rfl (fun l=>[(0,.func (.yield l) #[] #[]),(1,pa c0p)]) (fun l=>⟨rfl,rfl,trivial⟩) fun X l I Ix L Φ hX hr hD hI0 hY=>?_
 replace hR:=(F0.eq_1 ..).symm.trans hR
 refine sr 1 rfl (P1 1 0 [] (fun b1=>[(2,pt b1 0)]) (fun b1=>(bx b1 [.func (.yield l) #[] #[]] 168::L++([]))) (fun b1=>(ie (sr 4 rfl (ix rfl (P5 (us:=F4 c0) E3q rfl rfl (A1 0 rfl) rfl) ?_)))))
 refine P1 3 0 [0] (fun b2=>[(3,pt b2 0)]) (fun b2=>(bx b2 [.func (.func 106) #[ag (F4 c0)] #[]] 169::bx b1 [.func (.yield l) #[] #[]] 168::L++([]))) (fun b2=>?_)
 refine ie (A7 (sr 2 rfl (ix rfl (P5 (us:=F4 c0) E3q rfl rfl (A1 0 rfl) rfl) ?_)))
 refine zcm (B8a c0 _ rfl) fn0 fun b3=>?_
 refine ie (B2 (D0w [(1,pa c0p),(2,pt b1 0),(3,pt b2 0),(11,.func (.func 152) #[] #[pa b3])] ⟨rfl,rfl,rfl,rfl,trivial⟩ ?_))
 refine C0m (cc:=A5) (xs:=(F7 (N6 c0))) (σ:=List (List Act)×Fen.Own×List Pers) hr rfl (B5p (N6 c0) b3 (by first|exact hb.1|(dsimp only;omega)) _ rfl) (A0.cons (A1 0 rfl) fn0) rfl rfl (fun rem x=>C8 c0 rem=x.1∧I x.1 x.2.1 x.2.2∧(∀ e ∈ rem,mwA e)) (fun c x=>c=.ret∧Ix x.2.1 x.2.2) (fun x=>(bx b2 [.func (.func 106) #[ag (F4 c0)] #[]] 169::bx b1 [.func (.yield l) #[] #[]] 168::x.2.1++([]))) (fun x=>(at_ b3 (F4 (N6 c0))::at_ c0p (F4 c0)::x.2.2)) (R,L,Φ) (by exact ⟨hR,hI0,(by exact C4r c0 hb.1)⟩) (mc [[bx b2 [.func (.func 106) #[ag (F4 c0)] #[]] 169],[bx b1 [.func (.yield l) #[] #[]] 168],L] [true,true,true] rfl (by first|rfl|(simp only [List.length_set]<;>rfl))) (A0.con1 (A1 0 rfl) (A0.con1 (A1 1 rfl) (A0.dropT 2 rfl))) ?_ ?_ ?_
 ·rintro el rest ⟨R_,Lt,Ft⟩ qel kel hc5 hl6 hI Y Y' K' hY' hK
  try dsimp only at hI
  obtain ⟨hR,hILt,hel⟩:=hI
  replace hR:=(C8.eq_2 ..).symm.trans hR
  refine A3 1 rfl (ip' 1 0 [(4,.slice qel el.length kel)] (A6 (hK _ _ _ ?_)))
  refine B2 (sr 4 rfl (zrl 1 3 [0] [(13,.func (.func 106) #[ag (F4 c0)] #[])] ?_))
  have hQ:=C9 hR;clear hR;obtain ⟨y5,hy5,hR⟩:=hQ
  refine it rfl (Q6 (L2:=(bx b2 [.func (.func 106) #[ag (F4 c0)] #[]] 169::bx b1 [.func (.yield l) #[] #[]] 168::Lt++([]))) (B5h c0 (by first|exact hb.2|(dsimp only;omega)) y5 hy5) rfl rfl rfl rfl rfl fn0 (List.Perm.refl _) (fun ⟨⟨r7,rs8⟩,hp11⟩=>(bx b2 [.func (.func 106) #[ag (F4 c0)] #[]] 169::bx b1 [.func (.yield l) #[] #[]] 168::Lt++((vo D0 27 r7 rs8)++([])))) (fun ⟨⟨r7,rs8⟩,hp11⟩=>L9 [vo D0 27 r7 rs8,[bx b2 [.func (.func 106) #[ag (F4 c0)] #[]] 169],[bx b1 [.func (.yield l) #[] #[]] 168],Lt] [1,2,3,0] 4 rfl (by decide) (by first|rfl|simp) [[bx b2 [.func (.func 106) #[ag (F4 c0)] #[]] 169],[bx b1 [.func (.yield l) #[] #[]] 168],Lt,vo D0 27 r7 rs8] rfl (by first|rfl|simp))) fun ⟨⟨r7,rs8⟩,hp11⟩=>?_
  try dsimp only at hp11
  obtain ⟨hk9,hw10⟩:=hp11
  have:=VOk.le hk9
  have:=VOk.cap hk9
  have:=hw10.1
  have hac:=C1b hy5 (by first|exact hb.2|(dsimp only;omega))
  have:=hac.2;try rw [hy5] at this
  refine A4o (bx b2 [.func (.func 106) #[ag (F4 c0)] #[]] 169::bx b1 [.func (.yield l) #[] #[]] 168::Lt++([])) [] (T:=27) (c:=D0) (r:=r7) (xs:=rs8) (VOk.cast hk9 (by rw [hw10.1])) (by first|rfl|simp only [List.flatten_cons,List.flatten_nil,List.cons_append,List.append_assoc,List.nil_append,List.append_nil]) ?_
  refine C8u (L':=(bx b2 [.func (.func 106) #[ag (F4 c0)] #[]] 169::bx b1 [.func (.yield l) #[] #[]] 168::Lt++([]))) (by first|rfl|simp) ?_
  refine ip' 2 0 [(15,iv (y5.length:Int)),(16,iv 0)] (ie (B2 ?_))
  refine B7z (fun (t16:Nat) (R_1:List (List Act)) (Lt1:Fen.Own) (Ft1:List Pers)=>(t16≤y5.length∧F5 c0 el (C8 c0 rest) (y5.drop t16) t16=R_1∧I R_1 Lt1 Ft1,[(1,pa c0p),(2,pt b1 0),(3,pt b2 0),(4,.slice qel el.length kel),(11,.func (.func 152) #[] #[pa b3]),(14,.slice (va r7.q) y5.length r7.k),(15,iv (y5.length:Int)),(16,iv (t16:Int))],(bx b2 [.func (.func 106) #[ag (F4 c0)] #[]] 169::bx b1 [.func (.yield l) #[] #[]] 168::Lt1++([])),(sl D0 (va r7.q) rs8::F3 A5 rs8 y5::sl A5 qel el::at_ b3 (F4 (N6 c0))::at_ c0p (F4 c0)::Ft1),y5.length - t16)) 0 R_ Lt Ft ⟨(by omega),hR,hILt⟩ (mc [[bx b2 [.func (.func 106) #[ag (F4 c0)] #[]] 169],[bx b1 [.func (.yield l) #[] #[]] 168],Lt] [true,true,true] rfl (by first|rfl|(simp only [List.length_set]<;>rfl))) (A0.con1 (A1 0 rfl) (A0.con1 (A1 1 rfl) (A0.con1 (A1 2 rfl) (A0.con1 (A1 3 rfl) (A0.con1 (A1 4 rfl) (A0.dropT 5 rfl)))))) ?_
  rintro t16 R_1 Lt1 Ft1 ⟨hm12,hR,hILt1⟩
  have hele:=(hel el (List.mem_cons_self ..)).1
  have hrow:=C4o hac.1 t16
  refine sr 1 rfl (ip' 1 0 [(17,bv (decide ((t16:Int)<(y5.length:Int))))] ?_)
  refine ie (A7 (I9 rfl (fun h13=>?_) (fun h13=>?_)))
  ·have h13p:(t16:Int)<(y5.length:Int):=by simpa using h13
   rw [A4r [] (show t16<y5.length by omega)] at hR;replace hR:=(F5.eq_2 ..).symm.trans hR
   refine A9 (nx (A7 (B2 (sr 3 rfl (P3 0 rfl (by omega) fun a14 hq15=>(C3 (A5c (k:=t16) (d:=(⟨none,0,0⟩:Slc)) hw10 1 rfl (by have:=hw10.1;omega)) ?_))))))
   have:=A5e hw10 (k:=t16) (d:=(⟨none,0,0⟩:Slc)) (by have:=hw10.1;omega)
   refine ix rfl (N0 A2d rfl rfl hq15 rfl t16 rfl (by omega)) (ix rfl (I5 (C4 (v:=.slice ((rs8.getD t16 (⟨none,0,0⟩:Slc)).q) ((rs8.getD t16 (⟨none,0,0⟩:Slc)).n) ((rs8.getD t16 (⟨none,0,0⟩:Slc)).k)) (us:=[.slice ((rs8.getD t16 (⟨none,0,0⟩:Slc)).q) ((rs8.getD t16 (⟨none,0,0⟩:Slc)).n) ((rs8.getD t16 (⟨none,0,0⟩:Slc)).k)]) D7r rfl rfl (O4 (c:=D0) (sz:=1) hq15 (fun _=>rfl) 1 rfl (gd (⟨none,0,0⟩:Slc) (by have:=hw10.1;omega))) rfl) (A5f hw10 (by have:=hw10.1;omega))) (ip' 1 0 [(6,.slice ((rs8.getD t16 (⟨none,0,0⟩:Slc)).q) ((y5.getD t16 []).length) ((rs8.getD t16 (⟨none,0,0⟩:Slc)).k))] (ie (sr 9 rfl (ip' 5 4 [(20,.slice qel el.length kel),(22,iv (el.length:Int)),(24,iv (el.length:Int))] (ix rfl (C4l (n':=el.length) A0v rfl rfl el.length el.length (A3k rfl rfl) (A3k rfl rfl) (by omega) (by omega) (by first|rfl|omega) rfl) (ip' 1 2 [(26,.slice ((rs8.getD t16 (⟨none,0,0⟩:Slc)).q) ((y5.getD t16 []).length) ((rs8.getD t16 (⟨none,0,0⟩:Slc)).k))] (it rfl (C4q (f:=A5) (xs:=el) (ys:=(y5.getD t16 [])) C5n (fun _=>rfl) (fun _=>rfl) rfl rfl rfl rfl rfl rfl (by omega) (by omega) (by rfl) (A1 3 rfl) (A1 0 rfl) (by first|omega|(simp<;>omega)) (by first|omega|(simp<;>omega))) fun ⟨⟨q16,k17⟩,hq18⟩=>?_))))))))
   have:=@List.length_append _ el (y5.getD t16 [])
   refine ip' 1 0 [(7,.slice q16 ((el++(y5.getD t16 [])).length) k17)] (ie (A7 (sr 8 rfl (ip' 4 4 [(31,bv (decide (((el++(y5.getD t16 [])).length:Int)=0)))] ?_))))
   refine zid 4 0 31 35 c0.frm.wrap (fun g19 g19p=>?_) ?_
   ·refine ip' 2 2 [(33,pa (c0p.add 2))] (ix rfl (C4 (v:=bv c0.frm.wrap) (us:=[bv c0.frm.wrap]) ty4 rfl rfl (A4e (U3 (A1 6 rfl) (ws:=H2 c0.frm) 3 rfl) (ws:=[bv c0.frm.wrap]) 2 1 rfl) rfl) (ip' 1 0 [(35,bv c0.frm.wrap)] ?_))
    exact A6 (Q2 4 31 35 g19 A0.refl (mc [[bx b2 [.func (.func 106) #[ag (F4 c0)] #[]] 169],[bx b1 [.func (.yield l) #[] #[]] 168],Lt1] [true,true,true] rfl (by first|rfl|(simp only [List.length_set]<;>rfl))) rfl rfl rfl rfl rfl)
   refine ie ?_
   refine zjb rfl hR ?_ ?_<;>clear hR<;>intro hR h20
   ·have h20p:=h20;try simp at h20p
    refine J1 (nx (A3 2 rfl (ix rfl (B6 rfl rfl rfl rfl (by omega)) ?_)))
    refine ip' 1 0 [(16,iv ((t16:Int)+1))] (A6 ?_)
    exact B3p (z1:=t16) (z2:=R_1) (z3:=Lt1) (z4:=Ft1) (t16+1) R_1 Lt1 Ft1 ⟨(by omega),hR,hILt1⟩ (by (try dsimp only);omega) (mc [[bx b2 [.func (.func 106) #[ag (F4 c0)] #[]] 169],[bx b1 [.func (.yield l) #[] #[]] 168],Lt1] [true,true,true] rfl (by first|rfl|(simp only [List.length_set]<;>rfl))) (A0.con1 (A1 2 rfl) (A0.con1 (A1 3 rfl) (A0.con1 (A1 4 rfl) (A0.con1 (A1 5 rfl) (A0.con1 (A1 6 rfl) (A0.dropT 7 rfl))))))
   have h20p:=h20;try simp at h20p
   refine A9 (nx (sr 4 rfl (zrl 2 2 [1] [(36,.func (.yield l) #[] #[]),(37,.slice q16 ((el++(y5.getD t16 [])).length) k17)] ?_)))
   have hq26:=B8q hR;clear hR;obtain ⟨R21,hR,hq26⟩:=hq26;rw [hq26] at hILt1
   refine it rfl (A5w (L2:=[bx b2 [.func (.func 106) #[ag (F4 c0)] #[]] 169,bx b1 [.func (.yield l) #[] #[]] 168]) (hY (el++(y5.getD t16 [])) R21 _ _ q16 k17 (by first|omega|(simp<;>omega)|(dsimp only;omega)|decide) (by first|omega|(simp<;>omega)|(dsimp only;omega)|decide) hILt1) rfl rfl rfl rfl (A0.con1 (A1 0 rfl) (A0.dropT 7 rfl)) (L9 [[bx b2 [.func (.func 106) #[ag (F4 c0)] #[]] 169],[bx b1 [.func (.yield l) #[] #[]] 168],Lt1] [2,0,1] 3 rfl (by decide) rfl [Lt1,[bx b2 [.func (.func 106) #[ag (F4 c0)] #[]] 169],[bx b1 [.func (.yield l) #[] #[]] 168]] rfl (by simp only [List.flatten_cons,List.flatten_nil,List.append_nil,List.cons_append,List.nil_append,List.append_assoc]))) fun ⟨⟨y22,L23,Φ24⟩,hy25⟩=>?_
   refine A9f (A0.yield [sl A5 q16 (el++(y5.getD t16 [])),sl A5 ((rs8.getD t16 (⟨none,0,0⟩:Slc)).q) (y5.getD t16 []),sl D0 (va r7.q) rs8,F3 A5 rs8 y5,sl A5 qel el,at_ b3 (F4 (N6 c0)),at_ c0p (F4 c0)]) ?_
   refine ip' 1 0 [(39,bv (!y22))] ?_
   refine ie (I9 rfl (fun h27=>?_) (fun h27=>?_))
   ·have h27b:y22=false:=by simpa using h27
    rw [h27b] at hy25;try simp only [if_true,if_false,Bool.false_eq_true] at hy25
    refine B0 (A2r (L9 [L23,[bx b2 [.func (.func 106) #[ag (F4 c0)] #[]] 169],[bx b1 [.func (.yield l) #[] #[]] 168]] [1,2,0] 3 rfl (by decide) rfl [[bx b2 [.func (.func 106) #[ag (F4 c0)] #[]] 169],[bx b1 [.func (.yield l) #[] #[]] 168],L23] rfl (by first|rfl|simp)) ?_)
    refine E4h (I:=fun rem x=>C8 c0 rem=x.1∧I x.1 x.2.1 x.2.2∧(∀ e ∈ rem,mwA e)) (Jx:=fun c x=>c=.ret∧Ix x.2.1 x.2.2) (Lk:=fun x=>(bx b2 [.func (.func 106) #[ag (F4 c0)] #[]] 169::bx b1 [.func (.yield l) #[] #[]] 168::x.2.1++([]))) (Φk:=fun x=>(at_ b3 (F4 (N6 c0))::at_ c0p (F4 c0)::x.2.2)) (rest:=rest) (R21,L23,Φ24) (by exact ⟨rfl,hy25⟩) (mc [[bx b2 [.func (.func 106) #[ag (F4 c0)] #[]] 169],[bx b1 [.func (.yield l) #[] #[]] 168],L23] [true,true,true] rfl (by first|rfl|(simp only [List.length_set]<;>rfl))) ?_
    exact (A0.con1 (A1 5 rfl) (A0.con1 (A1 6 rfl) (A0.dropT 7 rfl)))
   ·have h27b:y22=true:=by simpa using h27
    rw [h27b] at hy25;try simp only [if_true,if_false,Bool.false_eq_true] at hy25
    refine A9 (nx (A3 2 rfl (ix rfl (B6 rfl rfl rfl rfl (by omega)) (ip' 1 0 [(16,iv ((t16:Int)+1))] (A6 (A2r (L9 [L23,[bx b2 [.func (.func 106) #[ag (F4 c0)] #[]] 169],[bx b1 [.func (.yield l) #[] #[]] 168]] [1,2,0] 3 rfl (by decide) rfl [[bx b2 [.func (.func 106) #[ag (F4 c0)] #[]] 169],[bx b1 [.func (.yield l) #[] #[]] 168],L23] rfl (by first|rfl|simp)) ?_))))))
    exact B3p (z1:=t16) (z2:=R_1) (z3:=Lt1) (z4:=Ft1) (t16+1) R21 L23 Φ24 ⟨(by omega),hR,hy25⟩ (by (try dsimp only);omega) (mc [[bx b2 [.func (.func 106) #[ag (F4 c0)] #[]] 169],[bx b1 [.func (.yield l) #[] #[]] 168],L23] [true,true,true] rfl (by first|rfl|(simp only [List.length_set]<;>rfl))) (A0.con1 (A1 2 rfl) (A0.con1 (A1 3 rfl) (A0.con1 (A1 4 rfl) (A0.con1 (A1 5 rfl) (A0.con1 (A1 6 rfl) (A0.dropT 7 rfl))))))
  have h13p:¬ ((t16:Int)<(y5.length:Int)):=by simpa using h13
  rw [A4s h13p] at hR;replace hR:=(F5.eq_1 ..).symm.trans hR
  refine J1 ?_
  refine A9s (I:=fun rem x=>C8 c0 rem=x.1∧I x.1 x.2.1 x.2.2∧(∀ e ∈ rem,mwA e)) (Jx:=fun c x=>c=.ret∧Ix x.2.1 x.2.2) (Lk:=fun x=>(bx b2 [.func (.func 106) #[ag (F4 c0)] #[]] 169::bx b1 [.func (.yield l) #[] #[]] 168::x.2.1++([]))) (Φk:=fun x=>(at_ b3 (F4 (N6 c0))::at_ c0p (F4 c0)::x.2.2)) (rest:=rest) (R_1,Lt1,Ft1) (by exact ⟨hR,hILt1,(by exact fun e he=>hel e (List.mem_cons_of_mem _ he))⟩) (mc [[bx b2 [.func (.func 106) #[ag (F4 c0)] #[]] 169],[bx b1 [.func (.yield l) #[] #[]] 168],Lt1] [true,true,true] rfl (by first|rfl|(simp only [List.length_set]<;>rfl))) ?_
  exact (A0.con1 (A1 3 rfl) (A0.con1 (A1 4 rfl) (A0.dropT 5 rfl)))
 ·rintro d28 ⟨R_,Lt,Ft⟩ hd28 hI
  try dsimp only at hI
  obtain ⟨hR,hILt,hel⟩:=hI
  replace hR:=(C8.eq_1 ..).symm.trans hR
  refine nx (A3 12 rfl (zrl 3 9 [1] [(41,.func (.yield l) #[] #[]),(43,pa (c0p.add 3))] (ix rfl (C4 (v:=iv c0.to_.row) (us:=[iv c0.to_.row]) ty3 rfl rfl (U3 (A4e (A1 1 rfl) (ws:=I0 c0.to_) 3 2 rfl) (ws:=[iv c0.to_.row]) 1 rfl) rfl) (ix rfl (B6 rfl rfl rfl rfl (by omega)) (ip' 2 5 [(47,pa ((c0p.add 3).add 1))] (ix rfl (C4 (v:=iv c0.to_.col) (us:=[iv c0.to_.col]) ty3 rfl rfl (A4e (A4e (A1 1 rfl) (ws:=I0 c0.to_) 3 2 rfl) (ws:=[iv c0.to_.col]) 1 1 rfl) rfl) (ix rfl (B6 rfl rfl rfl rfl (by omega)) (zrl 1 2 [] [(50,ag (A5 ({Act.zero with kind:=19,n:=(c0.to_.row+1),m:=(c0.to_.col+1)})))] ?_))))))))
  refine it rfl (B3 (c:=A5) (xs:=([{Act.zero with kind:=19,n:=(c0.to_.row+1),m:=(c0.to_.col+1)}]:List Act)) A0v rfl rfl rfl (by kernel_rfl)) fun b29=>?_
  have:([{Act.zero with kind:=19,n:=(c0.to_.row+1),m:=(c0.to_.col+1)}]:List Act).length=1:=rfl
  have hq35:=B8q hR;clear hR;obtain ⟨R30,hR,hq35⟩:=hq35;rw [hq35] at hILt
  refine it rfl (A5w (L2:=[bx b2 [.func (.func 106) #[ag (F4 c0)] #[]] 169,bx b1 [.func (.yield l) #[] #[]] 168]) (hY ([{Act.zero with kind:=19,n:=(c0.to_.row+1),m:=(c0.to_.col+1)}]:List Act) R30 _ _ (some ⟨b29,0,none⟩) 1 (by first|omega|(simp<;>omega)|(dsimp only;omega)|decide) (by first|omega|(simp<;>omega)|(dsimp only;omega)|decide) hILt) rfl rfl rfl rfl (A0.con1 (A1 0 rfl) (A0.dropT 3 rfl)) (L9 [[bx b2 [.func (.func 106) #[ag (F4 c0)] #[]] 169],[bx b1 [.func (.yield l) #[] #[]] 168],Lt] [2,0,1] 3 rfl (by decide) rfl [Lt,[bx b2 [.func (.func 106) #[ag (F4 c0)] #[]] 169],[bx b1 [.func (.yield l) #[] #[]] 168]] rfl (by simp only [List.flatten_cons,List.flatten_nil,List.append_nil,List.cons_append,List.nil_append,List.append_assoc]))) fun ⟨⟨y31,L32,Φ33⟩,hy34⟩=>?_
  refine A9f (A0.yield [sl A5 (some ⟨b29,0,none⟩) ([{Act.zero with kind:=19,n:=(c0.to_.row+1),m:=(c0.to_.col+1)}]:List Act),at_ b3 (F4 (N6 c0)),at_ c0p (F4 c0)]) ?_
  subst hR
  refine A6 ?_
  exact Z4 rfl ⟨hr,hD⟩ (by exact (V6.cons (show V6 X.D by rw [hD];exact V6.nil) hd28)) (B6p rfl) (L':=L32) (Φ':=Φ33) (by cases y31<;>first|exact .inr (by simpa using hy34)|exact .inl (by simpa using hy34)) (mcT [L32,[bx b2 [.func (.func 106) #[ag (F4 c0)] #[]] 169],[bx b1 [.func (.yield l) #[] #[]] 168]] 0 rfl rfl) (A0.dropT 3 rfl)
 ·rintro d36 _ ⟨R_,Lt,Ft⟩ hd36 ⟨rfl,hJx⟩
  try dsimp only at hJx
  refine B0 ?_
  exact C0c rfl ⟨hr,hD⟩ (by exact (V6.cons (show V6 X.D by rw [hD];exact V6.nil) hd36)) (B6p rfl) (L':=Lt) (Φ':=Ft) (by exact .inr hJx) (mcT [[bx b2 [.func (.func 106) #[ag (F4 c0)] #[]] 169],[bx b1 [.func (.yield l) #[] #[]] 168],Lt] 2 rfl rfl) (A0.dropT 2 rfl)
def V7:List (List Act)→List (List Act)→(List (List Act)×Int)
 | [],out=>(out,0)
 | el::rest,out=>V7 rest (out++([el]:List (List Act)))
def A5y (cols:Int) (rows:Int) (from_:Cur) (to_:Plc):List (List Act)×Int :=
 (bif (!decide ((F1 cols rows (⟨from_,to_⟩:Pth))=0)) then (([]:List (List Act)),(F1 cols rows (⟨from_,to_⟩:Pth))) else V7 (F0 (L5 (⟨from_,to_⟩:Pth))) ([]:List (List Act)))
theorem C5g:∀ (l out:List (List Act)),V7 l out=(out++l,0)
 | [],out=>by rw [V7,List.append_nil]
 | el::l,out=>by rw [V7,C5g l,List.append_assoc];rfl
theorem E3b (c r:Int) (f:Cur) (t:Plc):A5y c r f t=bif !decide (F1 c r ⟨f,t⟩=0) then ([],F1 c r ⟨f,t⟩) else (F0 ⟨f,t⟩,0):=by
 unfold A5y;rw [C5g];rfl
theorem E3g {c r:Int} {f:Cur} {t:Plc} {R:List (List Act)×Int} (h:A5y c r f t=R):(∀ e ∈ R.1,B2l e)∧R.1.length≤20:=by
 subst h;rw [E3b]
 cases hc:(!decide (F1 c r ⟨f,t⟩=0)) with
 | true=>exact ⟨fun e he=>(by cases he),Nat.zero_le _⟩
 | false=>exact ⟨(A9i (A7n hc)).1,Nat.le_trans (A9i (A7n hc)).2 (by omega)⟩
theorem C6o (cols:Int) (rows:Int) (from_:Cur) (to_:Plc) (R:List (List Act)×Int) (hR:A5y cols rows from_ to_=R):Con Tryz.prog 26 [iv cols,iv rows,ag (H2 from_),ag (I0 to_)] [] [] ({t:VR×List Slc // VOk 1 R.1.length t.1∧B7 t.2 R.1}) (fun x=>.tuple #[.slice (va x.1.1.q) R.1.length x.1.1.k,iv R.2]) (fun x=>((vo D0 27 x.1.1 x.1.2)++([]))) (fun x=>[F3 A5 x.1.2 R.1]):=by
 refine zco Tryz.func26 [(0,iv cols),(1,iv rows),(2,ag (H2 from_)),(3,ag (I0 to_))] fun X hX hr hD=>?_
 replace hR:=(A5y.eq_1 ..).symm.trans hR
 refine sr 4 rfl (B9z 4 0 [] (fun b1 b2=>[(6,pt b1 0),(7,pt b2 0)]) (fun b1 b2=>[bx b2 (I0 to_) 54,bx b1 (H2 from_) 52]) (fun b1 b2=>(ie (sr 5 rfl (P1 5 0 [1,0,0] (fun b3=>[(10,pt b3 0)]) (fun b3=>[bx b3 (F4 (⟨from_,to_⟩:Pth)) 100,bx b2 (I0 to_) 54,bx b1 (H2 from_) 52]) (fun b3=>(ie (A7 (sr 5 rfl (zrl 3 2 [0] [(17,iv cols),(18,iv rows),(19,ag (F4 (⟨from_,to_⟩:Pth)))] (zca (B2s cols rows (⟨from_,to_⟩:Pth) _ rfl) fn0 (ip' 1 0 [(11,iv (F1 cols rows (⟨from_,to_⟩:Pth)))] (ie (sr 2 rfl (ip' 2 0 [(22,bv (!decide ((F1 cols rows (⟨from_,to_⟩:Pth))=0)))] (ie ?_))))))))))))))))
 refine zjn rfl hR ?_ ?_<;>clear hR<;>intro hR h4 h4p
 ·refine sr 3 rfl (ip' 3 0 [(8,.slice none 0 0),(9,iv (F1 cols rows (⟨from_,to_⟩:Pth)))] ?_)
  subst hR
  refine ie (B0 ?_)
  exact zer hr hD (A4c rfl (B8 rfl) (B8 rfl)) ⟨(VR.nil,([]:List Slc)),⟨VOk.nil,B7.none⟩⟩ (mc [[bx b3 (F4 (⟨from_,to_⟩:Pth)) 100],[bx b2 (I0 to_) 54],[bx b1 (H2 from_) 52],vo D0 27 VR.nil ([]:List Slc)] [false,false,false,true] rfl (by first|rfl|(simp only [List.length_set]<;>rfl))) (A0.con1 H9 fn0)
 have hbd:=A7n h4
 refine A9 (nx (sr 1 rfl (P1 1 0 [] (fun b5=>[(12,pt b5 0)]) (fun b5=>[bx b5 [.slice none 0 0] 55,bx b3 (F4 (⟨from_,to_⟩:Pth)) 100,bx b2 (I0 to_) 54,bx b1 (H2 from_) 52]) (fun b5=>(ie (A7 (sr 2 rfl (zrl 1 1 [1] [(24,ag (F4 (⟨from_,to_⟩:Pth)))] ?_))))))))
 refine zcm (A9v (⟨from_,to_⟩:Pth) _ rfl) fn0 fun b6=>?_
 refine ie (B2 (A2r (L9 [vo D0 27 VR.nil ([]:List Slc),[bx b5 [.slice none 0 0] 55],[bx b3 (F4 (⟨from_,to_⟩:Pth)) 100],[bx b2 (I0 to_) 54],[bx b1 (H2 from_) 52]] [1,2,3,4,0] 5 rfl (by decide) rfl [[bx b5 [.slice none 0 0] 55],[bx b3 (F4 (⟨from_,to_⟩:Pth)) 100],[bx b2 (I0 to_) 54],[bx b1 (H2 from_) 52],vo D0 27 VR.nil ([]:List Slc)] rfl (by first|rfl|simp)) ?_))
 refine D0w [(12,pt b5 0),(25,.func (.func 105) #[] #[pa b6])] ⟨rfl,rfl,trivial⟩ ?_
 refine C0m (cc:=A5) (xs:=(F0 (L5 (⟨from_,to_⟩:Pth)))) (σ:=List (List Act)×VR×List Slc) hr rfl (A8i (L5 (⟨from_,to_⟩:Pth)) b6 (by first|exact hbd|assumption) _ rfl) A0.refl rfl rfl (fun rem x=>V7 rem x.1=R∧VOk 1 x.1.length x.2.1∧B7 x.2.2 x.1∧(∀ e ∈ rem,B2l e)∧x.1.length+rem.length≤20) (fun _ _=>False) (fun x=>(bx b5 [.slice (va x.2.1.q) x.1.length x.2.1.k] 55::bx b3 (F4 (⟨from_,to_⟩:Pth)) 100::bx b2 (I0 to_) 54::bx b1 (H2 from_) 52::(vo D0 27 x.2.1 x.2.2)++([]))) (fun x=>[at_ b6 (F4 (L5 (⟨from_,to_⟩:Pth))),F3 A5 x.2.2 x.1]) (([]:List (List Act)),VR.nil,([]:List Slc)) (by exact ⟨hR,VOk.nil,B7.none,(by exact (A9i hbd).1),(by exact Nat.le_trans (Nat.le_of_eq (Nat.zero_add _)) (Nat.le_trans (A9i hbd).2 (by omega)))⟩) (mc [[bx b5 [.slice none 0 0] 55],[bx b3 (F4 (⟨from_,to_⟩:Pth)) 100],[bx b2 (I0 to_) 54],[bx b1 (H2 from_) 52],vo D0 27 VR.nil ([]:List Slc)] [true,true,true,true,true] rfl (by first|rfl|(simp only [List.length_set]<;>rfl))) (A0.con1 (A1 0 rfl) (A0.con1 H9 fn0)) ?_ ?_ (fun _ _ _ _ h=>h.elim)
 ·rintro el rest ⟨out,outr,outrs⟩ qel kel hc8 hl9 hI Y Y' K' hY' hK
  try dsimp only at hI
  obtain ⟨hR,hokoutr,hrowsoutrs,hel,hout⟩:=hI
  replace hR:=(V7.eq_2 ..).symm.trans hR
  have:=VOk.le hokoutr
  refine A3 1 rfl (ip' 1 0 [(13,.slice qel el.length kel)] (A6 (hK _ _ _ ?_)))
  refine B2 (A3 5 rfl (zrl 2 3 [0] [(27,.slice (va outr.q) out.length outr.k),(28,.slice qel el.length kel)] ?_))
  refine it rfl (B3 (c:=D0) (xs:=([⟨qel,el.length,kel⟩]:List Slc)) A2d rfl rfl rfl (by kernel_rfl)) fun b10=>?_
  have hrows11:B7 ([⟨qel,el.length,kel⟩]:List Slc) ([el]:List (List Act)):=(B7.cons ⟨rfl,(by first|omega|(simp<;>omega)|(dsimp only;omega)|decide),(by first|omega|(simp<;>omega)|(dsimp only;omega)|decide)⟩ B7.none)
  refine C3 (q:=F3 A5 ([⟨qel,el.length,kel⟩]:List Slc) ([el]:List (List Act))) (N3 (A1 1 rfl) H9) ?_
  have:([⟨qel,el.length,kel⟩]:List Slc).length=1:=rfl
  have hw14:B7 (outrs++([⟨qel,el.length,kel⟩]:List Slc)) (out++([el]:List (List Act))):=B7.append hrowsoutrs hrows11
  refine it rfl (J9 (r:=outr) (rs:=outrs) (xss:=out) (pre:=[bx b5 [.slice (va outr.q) out.length outr.k] 55,bx b3 (F4 (⟨from_,to_⟩:Pth)) 100,bx b2 (I0 to_) 54,bx b1 (H2 from_) 52]) (post:=[]) A7c rfl rfl rfl rfl rfl rfl rfl rfl rfl (A1 1 rfl) (A1 4 rfl) (A1 0 rfl) hrowsoutrs hrows11 hokoutr (by first|omega|(simp<;>omega)) (by first|omega|(simp<;>omega))) fun ⟨r12,hr13⟩=>?_
  have:=VOk.le hr13
  have:=VOk.cap hr13
  have:([el]:List (List Act)).length=1:=rfl
  have:(out++([el]:List (List Act))).length=out.length+1:=List.length_append
  refine zrg 1 0 [0] [] (bx b5 [.slice (va r12.q) ((out++([el]:List (List Act))).length) r12.k] 55::bx b3 (F4 (⟨from_,to_⟩:Pth)) 100::bx b2 (I0 to_) 54::bx b1 (H2 from_) 52::(vo D0 27 r12 (outrs++([⟨qel,el.length,kel⟩]:List Slc)))++([])) (A6 ?_)
  refine A9s (I:=fun rem x=>V7 rem x.1=R∧VOk 1 x.1.length x.2.1∧B7 x.2.2 x.1∧(∀ e ∈ rem,B2l e)∧x.1.length+rem.length≤20) (Jx:=fun _ _=>False) (Lk:=fun x=>(bx b5 [.slice (va x.2.1.q) x.1.length x.2.1.k] 55::bx b3 (F4 (⟨from_,to_⟩:Pth)) 100::bx b2 (I0 to_) 54::bx b1 (H2 from_) 52::(vo D0 27 x.2.1 x.2.2)++([]))) (Φk:=fun x=>[at_ b6 (F4 (L5 (⟨from_,to_⟩:Pth))),F3 A5 x.2.2 x.1]) (rest:=rest) ((out++([el]:List (List Act))),r12,(outrs++([⟨qel,el.length,kel⟩]:List Slc))) (by exact ⟨hR,hr13,hw14,(by exact fun e he=>hel e (List.mem_cons_of_mem _ he)),(by simp only [List.length_cons,List.length_nil,List.length_append] at hout ⊢;omega)⟩) (mc [[bx b5 [.slice (va r12.q) ((out++([el]:List (List Act))).length) r12.k] 55],[bx b3 (F4 (⟨from_,to_⟩:Pth)) 100],[bx b2 (I0 to_) 54],[bx b1 (H2 from_) 52],vo D0 27 r12 (outrs++([⟨qel,el.length,kel⟩]:List Slc))] [true,true,true,true,true] rfl (by first|rfl|(simp only [List.length_set]<;>rfl))) ?_
  exact (A0.pick [4,0] rfl)
 ·rintro d15 ⟨out,outr,outrs⟩ hd15 hI
  try dsimp only at hI
  obtain ⟨hR,hokoutr,hrowsoutrs,hel,hout⟩:=hI
  replace hR:=(V7.eq_1 ..).symm.trans hR
  have:=VOk.le hokoutr
  refine nx (sr 3 rfl (zrl 3 0 [0] [(8,.slice (va outr.q) out.length outr.k),(9,iv 0)] ?_))
  subst hR
  refine ie (B0 ?_)
  exact B4n rfl ⟨hr,hD⟩ (by exact (V6.cons (show V6 X.D by rw [hD];exact V6.nil) hd15)) (A4c rfl (B8 rfl) (B8 rfl)) ⟨(outr,outrs),⟨hokoutr,hrowsoutrs⟩⟩ (by rfl) (mc [[bx b5 [.slice (va outr.q) out.length outr.k] 55],[bx b3 (F4 (⟨from_,to_⟩:Pth)) 100],[bx b2 (I0 to_) 54],[bx b1 (H2 from_) 52],vo D0 27 outr outrs] [false,false,false,false,true] rfl (by first|rfl|(simp only [List.length_set]<;>rfl))) (A0.con1 (A1 1 rfl) fn0)
end Go.Proofs.YtanighkpfmgnbaaGreatDoor
set_option linter.unusedVariables false
set_option linter.unusedSimpArgs false
set_option linter.unnecessarySimpa false
set_option maxRecDepth 100000
namespace Go.Proofs.YtanighkpfmgnbaaGreatDoor
open Go Go.Fen
def H3:List (List Act)→List Act→Int→(List Act×Int)
 | [],ffoundway,ffoundcost=>(ffoundway,0)
 | el::rest,ffoundway,ffoundcost=>(B5 (P7 el) fun (y0:List UInt8×Int)=>(bif ((!decide (y0.2=0))||((decide ((0:Int)≤ffoundcost))&&(decide (ffoundcost≤(y0.1.length:Int))))) then H3 rest ffoundway ffoundcost else H3 rest el (y0.1.length:Int)))
def A2h (cols:Int) (rows:Int) (from_:Cur) (to_:Plc):List Act×Int :=
 (bif (!decide ((F1 cols rows (⟨from_,to_⟩:Pth))=0)) then (([]:List Act),(F1 cols rows (⟨from_,to_⟩:Pth))) else H3 (F0 (L5 (⟨from_,to_⟩:Pth))) ([]:List Act) (-1))
theorem B3b:∀ (l:List (List Act)) (w:List Act) (k:Int),(∀ e ∈ l,B2l e)→B2l w→B2l (H3 l w k).1∧(H3 l w k).2=0
 | [],w,k,_,hw=>⟨hw,rfl⟩
 | el::l,w,k,h,hw=>by
  have hl:=fun e he=>h e (List.mem_cons_of_mem _ he)
  rw [H3];simp only [B5]
  cases ((!decide ((P7 el).2=0))||((decide ((0:Int)≤k))&&(decide (k≤((P7 el).1.length:Int))))) with
  | true=>exact B3b l w k hl hw
  | false=>exact B3b l el _ hl (h el (List.mem_cons_self ..))
theorem D4x (c r:Int) (f:Cur) (t:Plc):A2h c r f t=bif !decide (F1 c r ⟨f,t⟩=0) then ([],F1 c r ⟨f,t⟩) else H3 (F0 ⟨f,t⟩) [] (-1):=rfl
theorem C2u {c r:Int} {f:Cur} {t:Plc} {R:List Act×Int} (h:A2h c r f t=R):B2l R.1:=by
 subst h;rw [D4x]
 have h0:B2l ([]:List Act):=⟨Nat.zero_le _,fun a ha=>by cases ha⟩
 cases hc:(!decide (F1 c r ⟨f,t⟩=0)) with
 | true=>exact h0
 | false=>exact (B3b _ _ _ (A9i (A7n hc)).1 h0).1
theorem A7s (cols:Int) (rows:Int) (from_:Cur) (to_:Plc) (R:List Act×Int) (hR:A2h cols rows from_ to_=R):Con Tryz.prog 30 [iv cols,iv rows,ag (H2 from_),ag (I0 to_)] [] [B6s,B6r,Q3,P0,M3,S7] ({t:Option Addr×Nat // R.1.length≤t.2∧R.1.length≤9223372036854775807}) (fun x=>.tuple #[.slice x.1.1 R.1.length x.1.2,iv R.2]) (fun x=>[]) (fun x=>[sl A5 x.1.1 R.1]):=by
 refine zco Tryz.func30 [(0,iv cols),(1,iv rows),(2,ag (H2 from_)),(3,ag (I0 to_))] fun X hX hr hD=>?_
 replace hR:=(A2h.eq_1 ..).symm.trans hR
 refine sr 4 rfl (B9z 4 0 [] (fun b1 b2=>[(6,pt b1 0),(7,pt b2 0)]) (fun b1 b2=>[bx b2 (I0 to_) 54,bx b1 (H2 from_) 52]) (fun b1 b2=>(ie (D4t (sr 5 rfl (P1 5 0 [1,0,0] (fun b3=>[(10,pt b3 0)]) (fun b3=>[bx b3 (F4 (⟨from_,to_⟩:Pth)) 100,bx b2 (I0 to_) 54,bx b1 (H2 from_) 52]) (fun b3=>(ie (A7 (sr 5 rfl (zrl 3 2 [0] [(19,iv cols),(20,iv rows),(21,ag (F4 (⟨from_,to_⟩:Pth)))] (zca (B2s cols rows (⟨from_,to_⟩:Pth) _ rfl) fn0 (ip' 1 0 [(11,iv (F1 cols rows (⟨from_,to_⟩:Pth)))] (ie (sr 2 rfl (ip' 2 0 [(24,bv (!decide ((F1 cols rows (⟨from_,to_⟩:Pth))=0)))] (ie ?_)))))))))))))))))
 refine zjn rfl hR ?_ ?_<;>clear hR<;>intro hR h4 h4p
 ·refine sr 3 rfl (ip' 3 0 [(8,.slice none 0 0),(9,iv (F1 cols rows (⟨from_,to_⟩:Pth)))] ?_)
  subst hR
  refine ie (B0 ?_)
  exact zer hr hD (A4c rfl (B8 rfl) (B8 rfl)) (zq none 0) (mk [false,false,false] rfl) (A0.con1 A4u fn0)
 have hbd:=A7n h4
 refine A9 (nx (sr 4 rfl (P1 4 0 [0] (fun b5=>[(12,pt b5 0)]) (fun b5=>[bx b5 [.slice none 0 0,iv (-1)] 109,bx b3 (F4 (⟨from_,to_⟩:Pth)) 100,bx b2 (I0 to_) 54,bx b1 (H2 from_) 52]) (fun b5=>(ie (A7 (D5d (nx (A7 (sr 2 rfl (zrl 1 1 [1] [(28,ag (F4 (⟨from_,to_⟩:Pth)))] ?_)))))))))))
 refine zcm (A9v (⟨from_,to_⟩:Pth) _ rfl) fn0 fun b6=>?_
 refine ie (B2 (D0w [(12,pt b5 0),(29,.func (.func 105) #[] #[pa b6])] ⟨rfl,rfl,trivial⟩ ?_))
 refine C0m (cc:=A5) (xs:=(F0 (L5 (⟨from_,to_⟩:Pth)))) (σ:=List Act×Option Addr×Nat×Int) hr rfl (A8i (L5 (⟨from_,to_⟩:Pth)) b6 (by first|exact hbd|assumption) _ rfl) (A0.pick [0] rfl) rfl rfl (fun rem x=>H3 rem x.1 x.2.2.2=R∧x.1.length≤x.2.2.1∧x.1.length≤9223372036854775807∧(∀ e ∈ rem,B2l e)) (fun _ _=>False) (fun x=>[bx b5 [.slice x.2.1 x.1.length x.2.2.1,iv x.2.2.2] 109,bx b3 (F4 (⟨from_,to_⟩:Pth)) 100,bx b2 (I0 to_) 54,bx b1 (H2 from_) 52]) (fun x=>[at_ b6 (F4 (L5 (⟨from_,to_⟩:Pth))),B6s,B6r,Q3,P0,M3,S7,sl A5 x.2.1 x.1]) (([]:List Act),none,0,(-1)) (by exact ⟨hR,(by first|omega|(simp<;>omega)|(dsimp only;omega)|decide),(by first|omega|(simp<;>omega)|(dsimp only;omega)|decide),(by exact (A9i hbd).1)⟩) (mk [true,true,true,true] rfl) (A0.con1 (A1 0 rfl) (A0.con1 (A1 1 rfl) (A0.con1 (A1 2 rfl) (A0.con1 (A1 3 rfl) (A0.con1 (A1 4 rfl) (A0.con1 (A1 5 rfl) (A0.con1 (A1 6 rfl) (A0.con1 A4u fn0)))))))) ?_ ?_ (fun _ _ _ _ h=>h.elim)
 ·rintro el rest ⟨ffoundway,ffoundwayq,ffoundwayk,ffoundcost⟩ qel kel hc8 hl9 hI Y Y' K' hY' hK
  try dsimp only at hI
  obtain ⟨hR,hcffoundway,hlffoundway,hel⟩:=hI
  replace hR:=(H3.eq_2 ..).symm.trans hR
  refine A3 1 rfl (ip' 1 0 [(13,.slice qel el.length kel)] (A6 (hK _ _ _ ?_)))
  refine B2 (sr 7 rfl (ip' 1 6 [(32,.slice qel el.length kel)] ?_))
  have hQ:=C9 hR;clear hR;obtain ⟨y0,hy0,hR⟩:=hQ
  refine it rfl (Q6 (L2:=[bx b5 [.slice ffoundwayq ffoundway.length ffoundwayk,iv ffoundcost] 109,bx b3 (F4 (⟨from_,to_⟩:Pth)) 100,bx b2 (I0 to_) 54,bx b1 (H2 from_) 52]) (C8t el qel kel (by first|omega|(simp<;>omega)|(dsimp only;omega)|decide) (by first|omega|(simp<;>omega)|(dsimp only;omega)|decide) (by first|exact D6v hel|exact B8h hbm|exact B8h (D7x hwq.1 _)|exact fun x hx=>by rw [(hpen x hx).2];exact Nat.zero_le _|exact fun x hx=>hnt x hx|assumption|decide|exact fun x hx=>Nat.le_trans (hrow x hx) (by decide)|exact fun x hx=>Nat.le_trans (of_decide_eq_true (List.all_eq_true.1 hbt x hx)) (by decide)|(intro x hx;simp only [List.nil_append,List.mem_append] at hx;rcases hx with hx|hx<;>first|exact Nat.le_trans (hrow x hx) (by decide)|exact Nat.le_trans (hpt x hx) (by decide))|(intro x hx;rw [List.mem_singleton.1 hx];omega)|exact fun x hx=>Nat.le_trans (hrow x (List.mem_of_mem_take hx)) (by decide)|exact fun x hx=>Nat.le_trans (hrow x (List.mem_of_mem_drop hx)) (by decide)|exact fun x hx=>Nat.le_trans (hrow x (List.mem_of_mem_drop (List.mem_of_mem_take hx))) (by decide)|omega) y0 hy0) rfl rfl rfl rfl rfl (A0.pick [0,2,3,4,5,6,7] rfl) (List.Perm.refl _) (fun ⟨r10,hk11⟩=>(bx b5 [.slice ffoundwayq ffoundway.length ffoundwayk,iv ffoundcost] 109::bx b3 (F4 (⟨from_,to_⟩:Pth)) 100::bx b2 (I0 to_) 54::bx b1 (H2 from_) 52::(vo cU8 5 r10 y0.1)++([]))) (fun ⟨r10,hk11⟩=>L9 [vo cU8 5 r10 y0.1,[bx b5 [.slice ffoundwayq ffoundway.length ffoundwayk,iv ffoundcost] 109],[bx b3 (F4 (⟨from_,to_⟩:Pth)) 100],[bx b2 (I0 to_) 54],[bx b1 (H2 from_) 52]] [1,2,3,4,0] 5 rfl (by decide) (by first|rfl|simp) [[bx b5 [.slice ffoundwayq ffoundway.length ffoundwayk,iv ffoundcost] 109],[bx b3 (F4 (⟨from_,to_⟩:Pth)) 100],[bx b2 (I0 to_) 54],[bx b1 (H2 from_) 52],vo cU8 5 r10 y0.1] rfl (by first|rfl|simp))) fun ⟨r10,hk11⟩=>?_
  have:=VOk.le hk11
  have:=VOk.cap hk11
  try have:=C4h el (fun x hx=>Nat.le_trans (hrow x (by first|exact hx|exact List.mem_of_mem_take hx|exact List.mem_of_mem_drop hx)) (by decide));try rw [hy0] at this
  refine ip' 5 0 [(14,.slice (va r10.q) y0.1.length r10.k),(15,iv y0.2)] (ie (A7 (sr 16 rfl (ip' 3 13 [(38,bv (!decide (y0.2=0)))] ?_))))
  refine zio 13 0 38 51 ((decide ((0:Int)≤ffoundcost))&&(decide (ffoundcost≤(y0.1.length:Int)))) (fun g12=>?_) ?_
  ·have g12p:¬ (¬ y0.2=0):=by simpa using g12
   refine zrl 5 8 [0] [(43,bv (decide ((0:Int)≤ffoundcost)))] ?_
   refine zid 7 1 43 50 (decide (ffoundcost≤(y0.1.length:Int))) (fun g13 g13p=>?_) ?_
   ·refine zrl 7 0 [0] [(50,bv (decide (ffoundcost≤(y0.1.length:Int))))] ?_
    exact A6 (Q2 2 43 50 g13 A0.refl (mc [[bx b5 [.slice ffoundwayq ffoundway.length ffoundwayk,iv ffoundcost] 109],[bx b3 (F4 (⟨from_,to_⟩:Pth)) 100],[bx b2 (I0 to_) 54],[bx b1 (H2 from_) 52],vo cU8 5 r10 y0.1] [true,true,true,true,true] rfl (by first|rfl|(simp only [List.length_set]<;>rfl))) rfl rfl rfl rfl rfl)
   refine ip' 1 0 [(51,bv ((decide ((0:Int)≤ffoundcost))&&(decide (ffoundcost≤(y0.1.length:Int)))))] ?_
   exact A6 (Q2 4 38 51 g12 A0.refl (mc [[bx b5 [.slice ffoundwayq ffoundway.length ffoundwayk,iv ffoundcost] 109],[bx b3 (F4 (⟨from_,to_⟩:Pth)) 100],[bx b2 (I0 to_) 54],[bx b1 (H2 from_) 52],vo cU8 5 r10 y0.1] [true,true,true,true,true] rfl (by first|rfl|(simp only [List.length_set]<;>rfl))) rfl rfl rfl rfl rfl)
  refine ie ?_
  refine zjb rfl hR ?_ ?_<;>clear hR<;>intro hR h14
  ·have h14p:(¬ y0.2=0)∨(((0:Int)≤ffoundcost)∧(ffoundcost≤(y0.1.length:Int))):=by simpa using h14
   refine J1 ?_
   refine A9s (I:=fun rem x=>H3 rem x.1 x.2.2.2=R∧x.1.length≤x.2.2.1∧x.1.length≤9223372036854775807∧(∀ e ∈ rem,B2l e)) (Jx:=fun _ _=>False) (Lk:=fun x=>[bx b5 [.slice x.2.1 x.1.length x.2.2.1,iv x.2.2.2] 109,bx b3 (F4 (⟨from_,to_⟩:Pth)) 100,bx b2 (I0 to_) 54,bx b1 (H2 from_) 52]) (Φk:=fun x=>[at_ b6 (F4 (L5 (⟨from_,to_⟩:Pth))),B6s,B6r,Q3,P0,M3,S7,sl A5 x.2.1 x.1]) (rest:=rest) (ffoundway,ffoundwayq,ffoundwayk,ffoundcost) (by exact ⟨hR,(by first|omega|(simp<;>omega)|(dsimp only;omega)|decide),(by first|omega|(simp<;>omega)|(dsimp only;omega)|decide),(by exact fun e he=>hel e (List.mem_cons_of_mem _ he))⟩) (mc [[bx b5 [.slice ffoundwayq ffoundway.length ffoundwayk,iv ffoundcost] 109],[bx b3 (F4 (⟨from_,to_⟩:Pth)) 100],[bx b2 (I0 to_) 54],[bx b1 (H2 from_) 52],vo cU8 5 r10 y0.1] [true,true,true,true,false] rfl (by first|rfl|(simp only [List.length_set]<;>rfl))) ?_
   exact (A0.pick [1,2,3,4,5,6,7,8] rfl)
  have h14p:¬ ((¬ y0.2=0)∨(((0:Int)≤ffoundcost)∧(ffoundcost≤(y0.1.length:Int)))):=by simpa using h14
  refine A9 (nx (A3 9 rfl (zrg 9 0 [0,0] [] (bx b5 [.slice qel el.length kel,iv (y0.1.length:Int)] 109::bx b3 (F4 (⟨from_,to_⟩:Pth)) 100::bx b2 (I0 to_) 54::bx b1 (H2 from_) 52::(vo cU8 5 r10 y0.1)++([])) (A6 ?_))))
  refine A9s (I:=fun rem x=>H3 rem x.1 x.2.2.2=R∧x.1.length≤x.2.2.1∧x.1.length≤9223372036854775807∧(∀ e ∈ rem,B2l e)) (Jx:=fun _ _=>False) (Lk:=fun x=>[bx b5 [.slice x.2.1 x.1.length x.2.2.1,iv x.2.2.2] 109,bx b3 (F4 (⟨from_,to_⟩:Pth)) 100,bx b2 (I0 to_) 54,bx b1 (H2 from_) 52]) (Φk:=fun x=>[at_ b6 (F4 (L5 (⟨from_,to_⟩:Pth))),B6s,B6r,Q3,P0,M3,S7,sl A5 x.2.1 x.1]) (rest:=rest) (el,qel,kel,(y0.1.length:Int)) (by exact ⟨hR,(by first|omega|(simp<;>omega)|(dsimp only;omega)|decide),(by first|omega|(simp<;>omega)|(dsimp only;omega)|decide),(by exact fun e he=>hel e (List.mem_cons_of_mem _ he))⟩) (mc [[bx b5 [.slice qel el.length kel,iv (y0.1.length:Int)] 109],[bx b3 (F4 (⟨from_,to_⟩:Pth)) 100],[bx b2 (I0 to_) 54],[bx b1 (H2 from_) 52],vo cU8 5 r10 y0.1] [true,true,true,true,false] rfl (by first|rfl|(simp only [List.length_set]<;>rfl))) ?_
  exact (A0.pick [1,2,3,4,5,6,7,0] rfl)
 ·rintro d15 ⟨ffoundway,ffoundwayq,ffoundwayk,ffoundcost⟩ hd15 hI
  try dsimp only at hI
  obtain ⟨hR,hcffoundway,hlffoundway,hel⟩:=hI
  replace hR:=(H3.eq_1 ..).symm.trans hR
  refine nx (sr 5 rfl (zrl 5 0 [0] [(8,.slice ffoundwayq ffoundway.length ffoundwayk),(9,iv 0)] ?_))
  subst hR
  refine ie (B0 ?_)
  exact B4n rfl ⟨hr,hD⟩ (by exact (V6.cons (show V6 X.D by rw [hD];exact V6.nil) hd15)) (A4c rfl (B8 rfl) (B8 rfl)) (zq ffoundwayq ffoundwayk) (by rfl) (mk [false,false,false,false] rfl) (A0.con1 (A1 7 rfl) fn0)
end Go.Proofs.YtanighkpfmgnbaaGreatDoor
