import Derived.Test.YtanighkpfmgnbaaGreatDoorRows
import Derived.Test.YtanighkpfmgnbaaGreatDoorUA2
import Derived.Test.YtanighkpfmgnbaaGreatDoorUB1
set_option linter.unusedVariables false
namespace Go.Proofs.YtanighkpfmgnbaaGreatDoor
open Go Go.Fen Go.RowKit Go.ChangeShapes
def D1v (k:IntKind) (n:Int):Prop:=k.min≤n∧n≤k.max
def E8a (k:IntKind) (n:Int):List Value:=[.int k n]
def D7v {H:Type} (k:IntKind) (d:DataW H) (n:Int):Prop:=d=.lit (.int k n)
theorem C1t {P:Program} {T:TypeId} {k:IntKind} (ht:P.underlying T=some (.int k)):Cod P T Int (E8a k) (D7v k) (fun _=>D1v k):=fun h=>by
 obtain ⟨n,rfl,rfl,hw⟩:=DataW.trod_int ht h
 exact ⟨n,rfl,rfl,D7d hw⟩
theorem all_nil {h:Hp}:∀ q ∈ ([]:List Pers),q.p h:=fun _ h=>by cases h
theorem all_cons {h:Hp} {q:Pers} {Φ:List Pers} (h1:q.p h) (h2:∀ q ∈ Φ,q.p h):∀ q' ∈ q::Φ,q'.p h:=fun q' hq=>by
 rcases List.mem_cons.1 hq with rfl | hq
 ·exact h1
 ·exact h2 q' hq
def D4o:DataW Unit→Option Int
 | .lit (.int .i64 a)=>some a
 | _=>none
theorem D2x (d:DataW Unit) (a:Int) (h:C2y d a):D4o d=some a:=by
 unfold C2y at h
 subst h
 rfl
def E1k {H:Type} (d:DataW H) (n:Int):Prop:=d=.lit (.int .u64 n)
theorem E0v {P:Program} {T:TypeId} (ht:P.underlying T=some (.int .u64)):Cod P T Int E5b E1k (fun _ _=>True):=fun h=>by
 obtain ⟨n,rfl,rfl,hw⟩:=DataW.trod_int ht h
 exact ⟨n,rfl,rfl,trivial⟩
def D4w:DataW Unit→Option Int
 | .lit (.int .u64 a)=>some a
 | _=>none
theorem D2v (d:DataW Unit) (a:Int) (h:E1k d a):D4w d=some a:=by
 unfold E1k at h
 subst h
 rfl
theorem D2d:Lib.pow10Tab.flatMap E5b=B2o:=by kernel_rfl
def B5y (h:Array Obj) (g:Nat) (cs:List Value):Array Obj:=h.modify g fun
 | .cells _ t fr=>.cells cs.toArray t fr
 | o=>o
mutual
def A4p:DataW Unit→List Value
 | .agg ds=>B7g ds
 | .lit (.int k n)=>[.int k n]
 | .lit (.bool b)=>[.bool b]
 | .lit (.string s)=>[.string ⟨s.toArray⟩]
 | _=>[]
def B7g:List (DataW Unit)→List Value
 | []=>[]
 | d::r=>A4p d++B7g r
end
end Go.Proofs.YtanighkpfmgnbaaGreatDoor
set_option linter.unusedVariables false
set_option linter.unusedSimpArgs false
set_option linter.unnecessarySimpa false
namespace Go.Proofs.YtanighkpfmgnbaaGreatDoor
open Go Go.Fen
open Go.RowKit Go.ChangeShapes
def E7m (a:Atr):Prop:=C3w a.a∧C3w a.b∧C3w a.c
def E4e {H:Type} (d:DataW H) (a:Atr):Prop:=∃ d0 d1 d2,d=.agg [d0,d1,d2]∧C2y d0 a.a∧C2y d1 a.b∧C2y d2 a.c
set_option maxRecDepth 100000 in
theorem E4j:Cod Tryz.prog 243 Atr H9 E4e (fun _ a=>E7m a):=fun {H enc w base sp held fuel cs x} h=>by
 obtain ⟨hl,n,ys,rfl,hx,hyl,hf⟩:=B3o Tryz.underlying243 h
 have hl':cs.length=3:=hl.trans (by kernel_rfl)
 obtain ⟨y0,e0,t0⟩:=hf 0 _ rfl
 obtain ⟨a0,c0,q0,p0⟩:=(B4x Tryz.underlying3) t0
 obtain ⟨y1,e1,t1⟩:=hf 1 _ rfl
 obtain ⟨a1,c1,q1,p1⟩:=(B4x Tryz.underlying3) t1
 obtain ⟨y2,e2,t2⟩:=hf 2 _ rfl
 obtain ⟨a2,c2,q2,p2⟩:=(B4x Tryz.underlying3) t2
 have e:cs=_:=(List.drop_zero).symm.trans (A0z c0 (A0z c1 (A0z c2 (List.drop_eq_nil_of_le (by omega:cs.length≤3)) (by kernel_rfl)) (by kernel_rfl)) (by kernel_rfl))
 have hys:ys=[y0,y1,y2]:=by
  match ys,hyl,e0,e1,e2 with
  | [z0,z1,z2],_,e0,e1,e2=>simp at e0 e1 e2;simp [e0,e1,e2]
 rw [hys] at hx
 exact ⟨⟨a0,a1,a2⟩,e,⟨_,_,_,hx,q0,q1,q2⟩,p0,p1,p2⟩
def E4z (a:Spn):Prop:=C3w a.lo∧C3w a.hi
def E2a {H:Type} (d:DataW H) (a:Spn):Prop:=∃ d0 d1,d=.agg [d0,d1]∧C2y d0 a.lo∧C2y d1 a.hi
set_option maxRecDepth 100000 in
theorem D9n:Cod Tryz.prog 184 Spn B2 E2a (fun _ a=>E4z a):=fun {H enc w base sp held fuel cs x} h=>by
 obtain ⟨hl,n,ys,rfl,hx,hyl,hf⟩:=B3o Tryz.underlying184 h
 have hl':cs.length=2:=hl.trans (by kernel_rfl)
 obtain ⟨y0,e0,t0⟩:=hf 0 _ rfl
 obtain ⟨a0,c0,q0,p0⟩:=(B4x Tryz.underlying3) t0
 obtain ⟨y1,e1,t1⟩:=hf 1 _ rfl
 obtain ⟨a1,c1,q1,p1⟩:=(B4x Tryz.underlying3) t1
 have e:cs=_:=(List.drop_zero).symm.trans (A0z c0 (A0z c1 (List.drop_eq_nil_of_le (by omega:cs.length≤2)) (by kernel_rfl)) (by kernel_rfl))
 have hys:ys=[y0,y1]:=by
  match ys,hyl,e0,e1 with
  | [z0,z1],_,e0,e1=>simp at e0 e1;simp [e0,e1]
 rw [hys] at hx
 exact ⟨⟨a0,a1⟩,e,⟨_,_,hx,q0,q1⟩,p0,p1⟩
def E5f (a:Drf):Prop:=D1v .u16 a.kind∧D1v .u16 a.n∧D1v .u16 a.m∧D1v .u32 a.rgb∧a.text.length≤9223372036854775807
def E4i {H:Type} (d:DataW H) (a:Drf):Prop:=∃ d0 d1 d2 d3 d4,d=.agg [d0,d1,d2,d3,d4]∧D7v .u16 d0 a.kind∧D7v .u16 d1 a.n∧D7v .u16 d2 a.m∧D7v .u32 d3 a.rgb∧E6p d4 a.text
set_option maxRecDepth 100000 in
theorem E2s:Cod Tryz.prog 41 Drf L5 E4i (fun _ a=>E5f a):=fun {H enc w base sp held fuel cs x} h=>by
 obtain ⟨hl,n,ys,rfl,hx,hyl,hf⟩:=B3o Tryz.underlying41 h
 have hl':cs.length=5:=hl.trans (by kernel_rfl)
 obtain ⟨y0,e0,t0⟩:=hf 0 _ rfl
 obtain ⟨a0,c0,q0,p0⟩:=(C1t Tryz.underlying38) t0
 obtain ⟨y1,e1,t1⟩:=hf 1 _ rfl
 obtain ⟨a1,c1,q1,p1⟩:=(C1t Tryz.underlying38) t1
 obtain ⟨y2,e2,t2⟩:=hf 2 _ rfl
 obtain ⟨a2,c2,q2,p2⟩:=(C1t Tryz.underlying38) t2
 obtain ⟨y3,e3,t3⟩:=hf 3 _ rfl
 obtain ⟨a3,c3,q3,p3⟩:=(C1t Tryz.underlying39) t3
 obtain ⟨y4,e4,t4⟩:=hf 4 _ rfl
 obtain ⟨a4,c4,q4,p4⟩:=(E2g Tryz.underlying9) t4
 have e:cs=_:=(List.drop_zero).symm.trans (A0z c0 (A0z c1 (A0z c2 (A0z c3 (A0z c4 (List.drop_eq_nil_of_le (by omega:cs.length≤5)) (by kernel_rfl)) (by kernel_rfl)) (by kernel_rfl)) (by kernel_rfl)) (by kernel_rfl))
 have hys:ys=[y0,y1,y2,y3,y4]:=by
  match ys,hyl,e0,e1,e2,e3,e4 with
  | [z0,z1,z2,z3,z4],_,e0,e1,e2,e3,e4=>simp at e0 e1 e2 e3 e4;simp [e0,e1,e2,e3,e4]
 rw [hys] at hx
 exact ⟨⟨a0,a1,a2,a3,a4⟩,e,⟨_,_,_,_,_,hx,q0,q1,q2,q3,q4⟩,p0,p1,p2,p3,p4⟩
end Go.Proofs.YtanighkpfmgnbaaGreatDoor
set_option linter.unusedVariables false
namespace Go.Proofs.YtanighkpfmgnbaaGreatDoor
open Go Go.Fen Go.RowKit Go.ChangeShapes
def D4m:DataW Unit→Option Atr
 | .agg [.lit (.int .i64 a),.lit (.int .i64 b),.lit (.int .i64 c)]=>some ⟨a,b,c⟩
 | _=>none
theorem D3q (d:DataW Unit) (a:Atr) (h:E4e d a):D4m d=some a:=by
 obtain ⟨d0,d1,d2,rfl,h0,h1,h2⟩:=h
 unfold C2y at h0 h1 h2
 subst h0 h1 h2
 rfl
def C9c:DataW Unit→Option Spn
 | .agg [.lit (.int .i64 a),.lit (.int .i64 b)]=>some ⟨a,b⟩
 | _=>none
theorem C3q (d:DataW Unit) (a:Spn) (h:E2a d a):C9c d=some a:=by
 obtain ⟨d0,d1,rfl,h0,h1⟩:=h
 unfold C2y at h0 h1
 subst h0 h1
 rfl
def D8s:DataW Unit→Option UInt8
 | .lit (.int .u8 a)=>some (by8 a)
 | _=>none
theorem D6p (d:DataW Unit) (a:UInt8) (h:dU8 d a):D8s d=some a:=by
 unfold dU8 at h
 subst h
 refine congrArg some (UInt8.toNat_inj.1 ?_)
 have h1:=UInt8.toNat_lt a
 have:=B1w (n:=(a.toNat:Int)) (by omega)
 omega
end Go.Proofs.YtanighkpfmgnbaaGreatDoor
