import Derived.Test.YtanighkpfmgnbaaGreatDoorRows
import Derived.Test.YtanighkpfmgnbaaGreatDoorWA2
import Derived.Test.YtanighkpfmgnbaaGreatDoorWB1
set_option linter.unusedVariables false
namespace Go.Proofs.YtanighkpfmgnbaaGreatDoor
open Go Go.Fen Go.RowKit Go.ChangeShapes
def C9k (k:IntKind) (n:Int):Prop:=k.min≤n∧n≤k.max
def E5r (k:IntKind) (n:Int):List Value:=[.int k n]
def D5p {H:Type} (k:IntKind) (d:DataW H) (n:Int):Prop:=d=.lit (.int k n)
theorem C1a {P:Program} {T:TypeId} {k:IntKind} (ht:P.underlying T=some (.int k)):Cod P T Int (E5r k) (D5p k) (fun _=>C9k k):=fun h=>by
 obtain ⟨n,rfl,rfl,hw⟩:=DataW.trod_int ht h
 exact ⟨n,rfl,rfl,D6u hw⟩
theorem all_nil {h:Hp}:∀ q ∈ ([]:List Pers),q.p h:=fun _ h=>by cases h
theorem all_cons {h:Hp} {q:Pers} {Φ:List Pers} (h1:q.p h) (h2:∀ q ∈ Φ,q.p h):∀ q' ∈ q::Φ,q'.p h:=fun q' hq=>by
 rcases List.mem_cons.1 hq with rfl | hq
 ·exact h1
 ·exact h2 q' hq
def D2x:DataW Unit→Option Int
 | .lit (.int .i64 a)=>some a
 | _=>none
theorem D1g (d:DataW Unit) (a:Int) (h:C1m d a):D2x d=some a:=by
 unfold C1m at h
 subst h
 rfl
def D8k {H:Type} (d:DataW H) (n:Int):Prop:=d=.lit (.int .u64 n)
theorem D9n {P:Program} {T:TypeId} (ht:P.underlying T=some (.int .u64)):Cod P T Int E2p D8k (fun _ _=>True):=fun h=>by
 obtain ⟨n,rfl,rfl,hw⟩:=DataW.trod_int ht h
 exact ⟨n,rfl,rfl,trivial⟩
def D3h:DataW Unit→Option Int
 | .lit (.int .u64 a)=>some a
 | _=>none
theorem D0w (d:DataW Unit) (a:Int) (h:D8k d a):D3h d=some a:=by
 unfold D8k at h
 subst h
 rfl
theorem D1f:Lib.pow10Tab.flatMap E2p=B1r:=by kernel_rfl
def B5l (h:Array Obj) (g:Nat) (cs:List Value):Array Obj:=h.modify g fun
 | .cells _ t fr=>.cells cs.toArray t fr
 | o=>o
mutual
def A4j:DataW Unit→List Value
 | .agg ds=>B6u ds
 | .lit (.int k n)=>[.int k n]
 | .lit (.bool b)=>[.bool b]
 | .lit (.string s)=>[.string ⟨s.toArray⟩]
 | _=>[]
def B6u:List (DataW Unit)→List Value
 | []=>[]
 | d::r=>A4j d++B6u r
end
end Go.Proofs.YtanighkpfmgnbaaGreatDoor
set_option linter.unusedVariables false
set_option linter.unusedSimpArgs false
set_option linter.unnecessarySimpa false
namespace Go.Proofs.YtanighkpfmgnbaaGreatDoor
open Go Go.Fen
open Go.RowKit Go.ChangeShapes
def E3y (a:Atr):Prop:=C3k a.a∧C3k a.b∧C3k a.c
def E1g {H:Type} (d:DataW H) (a:Atr):Prop:=∃ d0 d1 d2,d=.agg [d0,d1,d2]∧C1m d0 a.a∧C1m d1 a.b∧C1m d2 a.c
set_option maxRecDepth 100000 in
theorem E1x:Cod Tryz.prog 243 Atr H7 E1g (fun _ a=>E3y a):=fun {H enc w base sp held fuel cs x} h=>by
 obtain ⟨hl,n,ys,rfl,hx,hyl,hf⟩:=B3s Tryz.underlying243 h
 have hl':cs.length=3:=hl.trans (by kernel_rfl)
 obtain ⟨y0,e0,t0⟩:=hf 0 _ rfl
 obtain ⟨a0,c0,q0,p0⟩:=(B4h Tryz.underlying3) t0
 obtain ⟨y1,e1,t1⟩:=hf 1 _ rfl
 obtain ⟨a1,c1,q1,p1⟩:=(B4h Tryz.underlying3) t1
 obtain ⟨y2,e2,t2⟩:=hf 2 _ rfl
 obtain ⟨a2,c2,q2,p2⟩:=(B4h Tryz.underlying3) t2
 have e:cs=_:=(List.drop_zero).symm.trans (A0t c0 (A0t c1 (A0t c2 (List.drop_eq_nil_of_le (by omega:cs.length≤3)) (by kernel_rfl)) (by kernel_rfl)) (by kernel_rfl))
 have hys:ys=[y0,y1,y2]:=by
  match ys,hyl,e0,e1,e2 with
  | [z0,z1,z2],_,e0,e1,e2=>simp at e0 e1 e2;simp [e0,e1,e2]
 rw [hys] at hx
 exact ⟨⟨a0,a1,a2⟩,e,⟨_,_,_,hx,q0,q1,q2⟩,p0,p1,p2⟩
def E1f (a:Spn):Prop:=C3k a.lo∧C3k a.hi
def D9p {H:Type} (d:DataW H) (a:Spn):Prop:=∃ d0 d1,d=.agg [d0,d1]∧C1m d0 a.lo∧C1m d1 a.hi
set_option maxRecDepth 100000 in
theorem D6z:Cod Tryz.prog 184 Spn B2 D9p (fun _ a=>E1f a):=fun {H enc w base sp held fuel cs x} h=>by
 obtain ⟨hl,n,ys,rfl,hx,hyl,hf⟩:=B3s Tryz.underlying184 h
 have hl':cs.length=2:=hl.trans (by kernel_rfl)
 obtain ⟨y0,e0,t0⟩:=hf 0 _ rfl
 obtain ⟨a0,c0,q0,p0⟩:=(B4h Tryz.underlying3) t0
 obtain ⟨y1,e1,t1⟩:=hf 1 _ rfl
 obtain ⟨a1,c1,q1,p1⟩:=(B4h Tryz.underlying3) t1
 have e:cs=_:=(List.drop_zero).symm.trans (A0t c0 (A0t c1 (List.drop_eq_nil_of_le (by omega:cs.length≤2)) (by kernel_rfl)) (by kernel_rfl))
 have hys:ys=[y0,y1]:=by
  match ys,hyl,e0,e1 with
  | [z0,z1],_,e0,e1=>simp at e0 e1;simp [e0,e1]
 rw [hys] at hx
 exact ⟨⟨a0,a1⟩,e,⟨_,_,hx,q0,q1⟩,p0,p1⟩
def E3q (a:Drf):Prop:=C9k .u16 a.kind∧C9k .u16 a.n∧C9k .u16 a.m∧C9k .u32 a.rgb∧a.text.length≤9223372036854775807
def E4i {H:Type} (d:DataW H) (a:Drf):Prop:=∃ d0 d1 d2 d3 d4,d=.agg [d0,d1,d2,d3,d4]∧D5p .u16 d0 a.kind∧D5p .u16 d1 a.n∧D5p .u16 d2 a.m∧D5p .u32 d3 a.rgb∧E4y d4 a.text
set_option maxRecDepth 100000 in
theorem E3f:Cod Tryz.prog 41 Drf L4 E4i (fun _ a=>E3q a):=fun {H enc w base sp held fuel cs x} h=>by
 obtain ⟨hl,n,ys,rfl,hx,hyl,hf⟩:=B3s Tryz.underlying41 h
 have hl':cs.length=5:=hl.trans (by kernel_rfl)
 obtain ⟨y0,e0,t0⟩:=hf 0 _ rfl
 obtain ⟨a0,c0,q0,p0⟩:=(C1a Tryz.underlying38) t0
 obtain ⟨y1,e1,t1⟩:=hf 1 _ rfl
 obtain ⟨a1,c1,q1,p1⟩:=(C1a Tryz.underlying38) t1
 obtain ⟨y2,e2,t2⟩:=hf 2 _ rfl
 obtain ⟨a2,c2,q2,p2⟩:=(C1a Tryz.underlying38) t2
 obtain ⟨y3,e3,t3⟩:=hf 3 _ rfl
 obtain ⟨a3,c3,q3,p3⟩:=(C1a Tryz.underlying39) t3
 obtain ⟨y4,e4,t4⟩:=hf 4 _ rfl
 obtain ⟨a4,c4,q4,p4⟩:=(D9o Tryz.underlying9) t4
 have e:cs=_:=(List.drop_zero).symm.trans (A0t c0 (A0t c1 (A0t c2 (A0t c3 (A0t c4 (List.drop_eq_nil_of_le (by omega:cs.length≤5)) (by kernel_rfl)) (by kernel_rfl)) (by kernel_rfl)) (by kernel_rfl)) (by kernel_rfl))
 have hys:ys=[y0,y1,y2,y3,y4]:=by
  match ys,hyl,e0,e1,e2,e3,e4 with
  | [z0,z1,z2,z3,z4],_,e0,e1,e2,e3,e4=>simp at e0 e1 e2 e3 e4;simp [e0,e1,e2,e3,e4]
 rw [hys] at hx
 exact ⟨⟨a0,a1,a2,a3,a4⟩,e,⟨_,_,_,_,_,hx,q0,q1,q2,q3,q4⟩,p0,p1,p2,p3,p4⟩
end Go.Proofs.YtanighkpfmgnbaaGreatDoor
set_option linter.unusedVariables false
namespace Go.Proofs.YtanighkpfmgnbaaGreatDoor
open Go Go.Fen Go.RowKit Go.ChangeShapes
def D3b:DataW Unit→Option Atr
 | .agg [.lit (.int .i64 a),.lit (.int .i64 b),.lit (.int .i64 c)]=>some ⟨a,b,c⟩
 | _=>none
theorem D1i (d:DataW Unit) (a:Atr) (h:E1g d a):D3b d=some a:=by
 obtain ⟨d0,d1,d2,rfl,h0,h1,h2⟩:=h
 unfold C1m at h0 h1 h2
 subst h0 h1 h2
 rfl
def C7n:DataW Unit→Option Spn
 | .agg [.lit (.int .i64 a),.lit (.int .i64 b)]=>some ⟨a,b⟩
 | _=>none
theorem C3s (d:DataW Unit) (a:Spn) (h:D9p d a):C7n d=some a:=by
 obtain ⟨d0,d1,rfl,h0,h1⟩:=h
 unfold C1m at h0 h1
 subst h0 h1
 rfl
def D7i:DataW Unit→Option UInt8
 | .lit (.int .u8 a)=>some (by8 a)
 | _=>none
theorem D5i (d:DataW Unit) (a:UInt8) (h:dU8 d a):D7i d=some a:=by
 unfold dU8 at h
 subst h
 refine congrArg some (UInt8.toNat_inj.1 ?_)
 have h1:=UInt8.toNat_lt a
 have:=B1j (n:=(a.toNat:Int)) (by omega)
 omega
end Go.Proofs.YtanighkpfmgnbaaGreatDoor
