import Derived.Test.YtanighkpfmgnbaaGreatDoorRows
import Derived.Test.YtanighkpfmgnbaaGreatDoorMA2
import Derived.Test.YtanighkpfmgnbaaGreatDoorMB1
set_option linter.unusedVariables false
namespace Go.Proofs.YtanighkpfmgnbaaGreatDoor
open Go Go.Fen Go.RowKit Go.ChangeShapes
theorem all_nil {h:Hp}:∀ q ∈ ([]:List Pers),q.p h:=fun _ h=>by cases h
theorem all_cons {h:Hp} {q:Pers} {Φ:List Pers} (h1:q.p h) (h2:∀ q ∈ Φ,q.p h):∀ q' ∈ q::Φ,q'.p h:=fun q' hq=>by
 rcases List.mem_cons.1 hq with rfl | hq
 ·exact h1
 ·exact h2 q' hq
def D4r:DataW Unit→Option Int
 | .lit (.int .i64 a)=>some a
 | _=>none
theorem D2j (d:DataW Unit) (a:Int) (h:B2u d a):D4r d=some a:=by
 unfold B2u at h
 subst h
 rfl
def E1n {H:Type} (d:DataW H) (n:Int):Prop:=d=.lit (.int .u64 n)
theorem E0f {P:Program} {T:TypeId} (ht:P.underlying T=some (.int .u64)):Cod P T Int E2j E1n (fun _ _=>True):=fun h=>by
 obtain ⟨n,rfl,rfl,hw⟩:=DataW.trod_int ht h
 exact ⟨n,rfl,rfl,trivial⟩
def D4n:DataW Unit→Option Int
 | .lit (.int .u64 a)=>some a
 | _=>none
theorem D2q (d:DataW Unit) (a:Int) (h:E1n d a):D4n d=some a:=by
 unfold E1n at h
 subst h
 rfl
theorem D1v:Lib.pow10Tab.flatMap E2j=B3d:=by kernel_rfl
def B7b (h:Array Obj) (g:Nat) (cs:List Value):Array Obj:=h.modify g fun
 | .cells _ t fr=>.cells cs.toArray t fr
 | o=>o
mutual
def A5n:DataW Unit→List Value
 | .agg ds=>B9i ds
 | .lit (.int k n)=>[.int k n]
 | .lit (.bool b)=>[.bool b]
 | .lit (.string s)=>[.string ⟨s.toArray⟩]
 | _=>[]
def B9i:List (DataW Unit)→List Value
 | []=>[]
 | d::r=>A5n d++B9i r
end
end Go.Proofs.YtanighkpfmgnbaaGreatDoor
set_option linter.unusedVariables false
set_option linter.unusedSimpArgs false
set_option linter.unnecessarySimpa false
namespace Go.Proofs.YtanighkpfmgnbaaGreatDoor
open Go Go.Fen
open Go.RowKit Go.ChangeShapes
def E6g (a:Atr):Prop:=A9m a.a∧A9m a.b∧A9m a.c
def E3b {H:Type} (d:DataW H) (a:Atr):Prop:=∃ d0 d1 d2,d=.agg [d0,d1,d2]∧B2u d0 a.a∧B2u d1 a.b∧B2u d2 a.c
set_option maxRecDepth 100000 in
theorem E2r:Cod Tryz.prog 243 Atr I0 E3b (fun _ a=>E6g a):=fun {H enc w base sp held fuel cs x} h=>by
 obtain ⟨hl,n,ys,rfl,hx,hyl,hf⟩:=A8f Tryz.underlying243 h
 have hl':cs.length=3:=hl.trans (by kernel_rfl)
 obtain ⟨y0,e0,t0⟩:=hf 0 _ rfl
 obtain ⟨a0,c0,q0,p0⟩:=(A0s Tryz.underlying3) t0
 obtain ⟨y1,e1,t1⟩:=hf 1 _ rfl
 obtain ⟨a1,c1,q1,p1⟩:=(A0s Tryz.underlying3) t1
 obtain ⟨y2,e2,t2⟩:=hf 2 _ rfl
 obtain ⟨a2,c2,q2,p2⟩:=(A0s Tryz.underlying3) t2
 have e:cs=_:=(List.drop_zero).symm.trans (P1 c0 (P1 c1 (P1 c2 (List.drop_eq_nil_of_le (by omega:cs.length≤3)) (by kernel_rfl)) (by kernel_rfl)) (by kernel_rfl))
 have hys:ys=[y0,y1,y2]:=by
  match ys,hyl,e0,e1,e2 with
  | [z0,z1,z2],_,e0,e1,e2=>simp at e0 e1 e2;simp [e0,e1,e2]
 rw [hys] at hx
 exact ⟨⟨a0,a1,a2⟩,e,⟨_,_,_,hx,q0,q1,q2⟩,p0,p1,p2⟩
def E3q (a:Spn):Prop:=A9m a.lo∧A9m a.hi
def D9v {H:Type} (d:DataW H) (a:Spn):Prop:=∃ d0 d1,d=.agg [d0,d1]∧B2u d0 a.lo∧B2u d1 a.hi
set_option maxRecDepth 100000 in
theorem D9s:Cod Tryz.prog 184 Spn B3 D9v (fun _ a=>E3q a):=fun {H enc w base sp held fuel cs x} h=>by
 obtain ⟨hl,n,ys,rfl,hx,hyl,hf⟩:=A8f Tryz.underlying184 h
 have hl':cs.length=2:=hl.trans (by kernel_rfl)
 obtain ⟨y0,e0,t0⟩:=hf 0 _ rfl
 obtain ⟨a0,c0,q0,p0⟩:=(A0s Tryz.underlying3) t0
 obtain ⟨y1,e1,t1⟩:=hf 1 _ rfl
 obtain ⟨a1,c1,q1,p1⟩:=(A0s Tryz.underlying3) t1
 have e:cs=_:=(List.drop_zero).symm.trans (P1 c0 (P1 c1 (List.drop_eq_nil_of_le (by omega:cs.length≤2)) (by kernel_rfl)) (by kernel_rfl))
 have hys:ys=[y0,y1]:=by
  match ys,hyl,e0,e1 with
  | [z0,z1],_,e0,e1=>simp at e0 e1;simp [e0,e1]
 rw [hys] at hx
 exact ⟨⟨a0,a1⟩,e,⟨_,_,hx,q0,q1⟩,p0,p1⟩
def E0n (a:Col):Prop:=A9m a.kind∧A9m a.n
def E0j {H:Type} (d:DataW H) (a:Col):Prop:=∃ d0 d1,d=.agg [d0,d1]∧B2u d0 a.kind∧B2u d1 a.n
set_option maxRecDepth 100000 in
theorem D7v:Cod Tryz.prog 24 Col K3 E0j (fun _ a=>E0n a):=fun {H enc w base sp held fuel cs x} h=>by
 obtain ⟨hl,n,ys,rfl,hx,hyl,hf⟩:=A8f Tryz.underlying24 h
 have hl':cs.length=2:=hl.trans (by kernel_rfl)
 obtain ⟨y0,e0,t0⟩:=hf 0 _ rfl
 obtain ⟨a0,c0,q0,p0⟩:=(A0s Tryz.underlying3) t0
 obtain ⟨y1,e1,t1⟩:=hf 1 _ rfl
 obtain ⟨a1,c1,q1,p1⟩:=(A0s Tryz.underlying3) t1
 have e:cs=_:=(List.drop_zero).symm.trans (P1 c0 (P1 c1 (List.drop_eq_nil_of_le (by omega:cs.length≤2)) (by kernel_rfl)) (by kernel_rfl))
 have hys:ys=[y0,y1]:=by
  match ys,hyl,e0,e1 with
  | [z0,z1],_,e0,e1=>simp at e0 e1;simp [e0,e1]
 rw [hys] at hx
 exact ⟨⟨a0,a1⟩,e,⟨_,_,hx,q0,q1⟩,p0,p1⟩
def E5l (a:Sty):Prop:=A9m a.attr∧A9m a.under∧E0n a.fore∧E0n a.back∧E0n a.line
def E6q {H:Type} (d:DataW H) (a:Sty):Prop:=∃ d0 d1 d2 d3 d4,d=.agg [d0,d1,d2,d3,d4]∧B2u d0 a.attr∧B2u d1 a.under∧E0j d2 a.fore∧E0j d3 a.back∧E0j d4 a.line
set_option maxRecDepth 100000 in
theorem E1s:Cod Tryz.prog 67 Sty A4 E6q (fun _ a=>E5l a):=fun {H enc w base sp held fuel cs x} h=>by
 obtain ⟨hl,n,ys,rfl,hx,hyl,hf⟩:=A8f Tryz.underlying67 h
 have hl':cs.length=8:=hl.trans (by kernel_rfl)
 obtain ⟨y0,e0,t0⟩:=hf 0 _ rfl
 obtain ⟨a0,c0,q0,p0⟩:=(A0s Tryz.underlying3) t0
 obtain ⟨y1,e1,t1⟩:=hf 1 _ rfl
 obtain ⟨a1,c1,q1,p1⟩:=(A0s Tryz.underlying3) t1
 obtain ⟨y2,e2,t2⟩:=hf 2 _ rfl
 obtain ⟨a2,c2,q2,p2⟩:=D7v t2
 obtain ⟨y3,e3,t3⟩:=hf 3 _ rfl
 obtain ⟨a3,c3,q3,p3⟩:=D7v t3
 obtain ⟨y4,e4,t4⟩:=hf 4 _ rfl
 obtain ⟨a4,c4,q4,p4⟩:=D7v t4
 have e:cs=_:=(List.drop_zero).symm.trans (P1 c0 (P1 c1 (P1 c2 (P1 c3 (P1 c4 (List.drop_eq_nil_of_le (by omega:cs.length≤8)) (by kernel_rfl)) (by kernel_rfl)) (by kernel_rfl)) (by kernel_rfl)) (by kernel_rfl))
 have hys:ys=[y0,y1,y2,y3,y4]:=by
  match ys,hyl,e0,e1,e2,e3,e4 with
  | [z0,z1,z2,z3,z4],_,e0,e1,e2,e3,e4=>simp at e0 e1 e2 e3 e4;simp [e0,e1,e2,e3,e4]
 rw [hys] at hx
 exact ⟨⟨a0,a1,a2,a3,a4⟩,e,⟨_,_,_,_,_,hx,q0,q1,q2,q3,q4⟩,p0,p1,p2,p3,p4⟩
def E6c (a:Ar2):Prop:=A9m a.a∧A9m a.b
def E6y {H:Type} (d:DataW H) (a:Ar2):Prop:=∃ d0 d1,d=.agg [d0,d1]∧B2u d0 a.a∧B2u d1 a.b
set_option maxRecDepth 100000 in
theorem E5d:Cod Tryz.prog 71 Ar2 B2r E6y (fun _ a=>E6c a):=fun {H enc w base sp held fuel cs x} h=>by
 obtain ⟨hl,n,ys,rfl,hx,hyl,hf⟩:=C4d Tryz.underlying71 h
 have hl':cs.length=2:=hl.trans (by kernel_rfl)
 obtain ⟨y0,e0,t0⟩:=hf 0 (by decide)
 obtain ⟨a0,c0,q0,p0⟩:=(A0s Tryz.underlying3) t0
 obtain ⟨y1,e1,t1⟩:=hf 1 (by decide)
 obtain ⟨a1,c1,q1,p1⟩:=(A0s Tryz.underlying3) t1
 have e:cs=_:=(List.drop_zero).symm.trans (P1 c0 (P1 c1 (List.drop_eq_nil_of_le (by omega:cs.length≤2)) (by kernel_rfl)) (by kernel_rfl))
 have hys:ys=[y0,y1]:=by
  match ys,hyl,e0,e1 with
  | [z0,z1],_,e0,e1=>simp at e0 e1;simp [e0,e1]
 rw [hys] at hx
 exact ⟨⟨a0,a1⟩,e,⟨_,_,hx,q0,q1⟩,p0,p1⟩
def E5m (a:Cel):Prop:=A9m a.base∧E6c a.marks∧A9m a.wide∧E5l a.sty
def E5w {H:Type} (d:DataW H) (a:Cel):Prop:=∃ d0 d1 d2 d3,d=.agg [d0,d1,d2,d3]∧B2u d0 a.base∧E6y d1 a.marks∧B2u d2 a.wide∧E6q d3 a.sty
set_option maxRecDepth 100000 in
theorem E5g:Cod Tryz.prog 73 Cel L9 E5w (fun _ a=>E5m a):=fun {H enc w base sp held fuel cs x} h=>by
 obtain ⟨hl,n,ys,rfl,hx,hyl,hf⟩:=A8f Tryz.underlying73 h
 have hl':cs.length=12:=hl.trans (by kernel_rfl)
 obtain ⟨y0,e0,t0⟩:=hf 0 _ rfl
 obtain ⟨a0,c0,q0,p0⟩:=(A0s Tryz.underlying3) t0
 obtain ⟨y1,e1,t1⟩:=hf 1 _ rfl
 obtain ⟨a1,c1,q1,p1⟩:=E5d t1
 obtain ⟨y2,e2,t2⟩:=hf 2 _ rfl
 obtain ⟨a2,c2,q2,p2⟩:=(A0s Tryz.underlying3) t2
 obtain ⟨y3,e3,t3⟩:=hf 3 _ rfl
 obtain ⟨a3,c3,q3,p3⟩:=E1s t3
 have e:cs=_:=(List.drop_zero).symm.trans (P1 c0 (P1 c1 (P1 c2 (P1 c3 (List.drop_eq_nil_of_le (by omega:cs.length≤12)) (by kernel_rfl)) (by kernel_rfl)) (by kernel_rfl)) (by kernel_rfl))
 have hys:ys=[y0,y1,y2,y3]:=by
  match ys,hyl,e0,e1,e2,e3 with
  | [z0,z1,z2,z3],_,e0,e1,e2,e3=>simp at e0 e1 e2 e3;simp [e0,e1,e2,e3]
 rw [hys] at hx
 exact ⟨⟨a0,a1,a2,a3⟩,e,⟨_,_,_,_,hx,q0,q1,q2,q3⟩,p0,p1,p2,p3⟩
end Go.Proofs.YtanighkpfmgnbaaGreatDoor
set_option linter.unusedVariables false
namespace Go.Proofs.YtanighkpfmgnbaaGreatDoor
open Go Go.Fen Go.RowKit Go.ChangeShapes
def D4s:DataW Unit→Option Atr
 | .agg [.lit (.int .i64 a),.lit (.int .i64 b),.lit (.int .i64 c)]=>some ⟨a,b,c⟩
 | _=>none
theorem D1r (d:DataW Unit) (a:Atr) (h:E3b d a):D4s d=some a:=by
 obtain ⟨d0,d1,d2,rfl,h0,h1,h2⟩:=h
 unfold B2u at h0 h1 h2
 subst h0 h1 h2
 rfl
def C7q:DataW Unit→Option Spn
 | .agg [.lit (.int .i64 a),.lit (.int .i64 b)]=>some ⟨a,b⟩
 | _=>none
theorem C3b (d:DataW Unit) (a:Spn) (h:D9v d a):C7q d=some a:=by
 obtain ⟨d0,d1,rfl,h0,h1⟩:=h
 unfold B2u at h0 h1
 subst h0 h1
 rfl
def D6z:DataW Unit→Option UInt8
 | .lit (.int .u8 a)=>some (by8 a)
 | _=>none
theorem D5c (d:DataW Unit) (a:UInt8) (h:dU8 d a):D6z d=some a:=by
 unfold dU8 at h
 subst h
 refine congrArg some (UInt8.toNat_inj.1 ?_)
 have h1:=UInt8.toNat_lt a
 have:=B2b (n:=(a.toNat:Int)) (by omega)
 omega
end Go.Proofs.YtanighkpfmgnbaaGreatDoor
