import Derived.Test.YtanighkpfmgnbaaGreatDoorRows
import Derived.Test.YtanighkpfmgnbaaGreatDoorA2
import Derived.Test.YtanighkpfmgnbaaGreatDoorB1
set_option linter.unusedVariables false
namespace Go.Proofs.YtanighkpfmgnbaaGreatDoor
open Go Go.Fen Go.RowKit Go.ChangeShapes
def C9z (k:IntKind) (n:Int):Prop:=k.min≤n∧n≤k.max
def E5s (k:IntKind) (n:Int):List Value:=[.int k n]
def D7o {H:Type} (k:IntKind) (d:DataW H) (n:Int):Prop:=d=.lit (.int k n)
theorem C1n {P:Program} {T:TypeId} {k:IntKind} (ht:P.underlying T=some (.int k)):Cod P T Int (E5s k) (D7o k) (fun _=>C9z k):=fun h=>by
 obtain ⟨n,rfl,rfl,hw⟩:=DataW.trod_int ht h
 exact ⟨n,rfl,rfl,D8r hw⟩
theorem all_nil {h:Hp}:∀ q ∈ ([]:List Pers),q.p h:=fun _ h=>by cases h
theorem all_cons {h:Hp} {q:Pers} {Φ:List Pers} (h1:q.p h) (h2:∀ q ∈ Φ,q.p h):∀ q' ∈ q::Φ,q'.p h:=fun q' hq=>by
 rcases List.mem_cons.1 hq with rfl | hq
 ·exact h1
 ·exact h2 q' hq
def D3d:DataW Unit→Option Int
 | .lit (.int .i64 a)=>some a
 | _=>none
theorem D1s (d:DataW Unit) (a:Int) (h:B5w d a):D3d d=some a:=by
 unfold B5w at h
 subst h
 rfl
def D9v {H:Type} (d:DataW H) (n:Int):Prop:=d=.lit (.int .u64 n)
theorem D9n {P:Program} {T:TypeId} (ht:P.underlying T=some (.int .u64)):Cod P T Int E3g D9v (fun _ _=>True):=fun h=>by
 obtain ⟨n,rfl,rfl,hw⟩:=DataW.trod_int ht h
 exact ⟨n,rfl,rfl,trivial⟩
def D4d:DataW Unit→Option Int
 | .lit (.int .u64 a)=>some a
 | _=>none
theorem D1f (d:DataW Unit) (a:Int) (h:D9v d a):D4d d=some a:=by
 unfold D9v at h
 subst h
 rfl
theorem D1h:Lib.pow10Tab.flatMap E3g=B3m:=by kernel_rfl
def B6w (h:Array Obj) (g:Nat) (cs:List Value):Array Obj:=h.modify g fun
 | .cells _ t fr=>.cells cs.toArray t fr
 | o=>o
mutual
def A5k:DataW Unit→List Value
 | .agg ds=>B7u ds
 | .lit (.int k n)=>[.int k n]
 | .lit (.bool b)=>[.bool b]
 | .lit (.string s)=>[.string ⟨s.toArray⟩]
 | _=>[]
def B7u:List (DataW Unit)→List Value
 | []=>[]
 | d::r=>A5k d++B7u r
end
end Go.Proofs.YtanighkpfmgnbaaGreatDoor
set_option linter.unusedVariables false
set_option linter.unusedSimpArgs false
set_option linter.unnecessarySimpa false
namespace Go.Proofs.YtanighkpfmgnbaaGreatDoor
open Go Go.Fen
open Go.RowKit Go.ChangeShapes
def E3s (a:Atr):Prop:=B3r a.a∧B3r a.b∧B3r a.c
def E1p {H:Type} (d:DataW H) (a:Atr):Prop:=∃ d0 d1 d2,d=.agg [d0,d1,d2]∧B5w d0 a.a∧B5w d1 a.b∧B5w d2 a.c
set_option maxRecDepth 100000 in
theorem E1m:Cod Tryz.prog 243 Atr I2 E1p (fun _ a=>E3s a):=fun {H enc w base sp held fuel cs x} h=>by
 obtain ⟨hl,n,ys,rfl,hx,hyl,hf⟩:=A7j Tryz.underlying243 h
 have hl':cs.length=3:=hl.trans (by kernel_rfl)
 obtain ⟨y0,e0,t0⟩:=hf 0 _ rfl
 obtain ⟨a0,c0,q0,p0⟩:=(A4x Tryz.underlying3) t0
 obtain ⟨y1,e1,t1⟩:=hf 1 _ rfl
 obtain ⟨a1,c1,q1,p1⟩:=(A4x Tryz.underlying3) t1
 obtain ⟨y2,e2,t2⟩:=hf 2 _ rfl
 obtain ⟨a2,c2,q2,p2⟩:=(A4x Tryz.underlying3) t2
 have e:cs=_:=(List.drop_zero).symm.trans (Q1 c0 (Q1 c1 (Q1 c2 (List.drop_eq_nil_of_le (by omega:cs.length≤3)) (by kernel_rfl)) (by kernel_rfl)) (by kernel_rfl))
 have hys:ys=[y0,y1,y2]:=by
  match ys,hyl,e0,e1,e2 with
  | [z0,z1,z2],_,e0,e1,e2=>simp at e0 e1 e2;simp [e0,e1,e2]
 rw [hys] at hx
 exact ⟨⟨a0,a1,a2⟩,e,⟨_,_,_,hx,q0,q1,q2⟩,p0,p1,p2⟩
def E2c (a:Spn):Prop:=B3r a.lo∧B3r a.hi
def D9e {H:Type} (d:DataW H) (a:Spn):Prop:=∃ d0 d1,d=.agg [d0,d1]∧B5w d0 a.lo∧B5w d1 a.hi
set_option maxRecDepth 100000 in
theorem D8g:Cod Tryz.prog 184 Spn B4 D9e (fun _ a=>E2c a):=fun {H enc w base sp held fuel cs x} h=>by
 obtain ⟨hl,n,ys,rfl,hx,hyl,hf⟩:=A7j Tryz.underlying184 h
 have hl':cs.length=2:=hl.trans (by kernel_rfl)
 obtain ⟨y0,e0,t0⟩:=hf 0 _ rfl
 obtain ⟨a0,c0,q0,p0⟩:=(A4x Tryz.underlying3) t0
 obtain ⟨y1,e1,t1⟩:=hf 1 _ rfl
 obtain ⟨a1,c1,q1,p1⟩:=(A4x Tryz.underlying3) t1
 have e:cs=_:=(List.drop_zero).symm.trans (Q1 c0 (Q1 c1 (List.drop_eq_nil_of_le (by omega:cs.length≤2)) (by kernel_rfl)) (by kernel_rfl))
 have hys:ys=[y0,y1]:=by
  match ys,hyl,e0,e1 with
  | [z0,z1],_,e0,e1=>simp at e0 e1;simp [e0,e1]
 rw [hys] at hx
 exact ⟨⟨a0,a1⟩,e,⟨_,_,hx,q0,q1⟩,p0,p1⟩
def E4a (a:Col):Prop:=B3r a.kind∧B3r a.n
def E4u {H:Type} (d:DataW H) (a:Col):Prop:=∃ d0 d1,d=.agg [d0,d1]∧B5w d0 a.kind∧B5w d1 a.n
set_option maxRecDepth 100000 in
theorem E5e:Cod Tryz.prog 24 Col L9 E4u (fun _ a=>E4a a):=fun {H enc w base sp held fuel cs x} h=>by
 obtain ⟨hl,n,ys,rfl,hx,hyl,hf⟩:=A7j Tryz.underlying24 h
 have hl':cs.length=2:=hl.trans (by kernel_rfl)
 obtain ⟨y0,e0,t0⟩:=hf 0 _ rfl
 obtain ⟨a0,c0,q0,p0⟩:=(A4x Tryz.underlying3) t0
 obtain ⟨y1,e1,t1⟩:=hf 1 _ rfl
 obtain ⟨a1,c1,q1,p1⟩:=(A4x Tryz.underlying3) t1
 have e:cs=_:=(List.drop_zero).symm.trans (Q1 c0 (Q1 c1 (List.drop_eq_nil_of_le (by omega:cs.length≤2)) (by kernel_rfl)) (by kernel_rfl))
 have hys:ys=[y0,y1]:=by
  match ys,hyl,e0,e1 with
  | [z0,z1],_,e0,e1=>simp at e0 e1;simp [e0,e1]
 rw [hys] at hx
 exact ⟨⟨a0,a1⟩,e,⟨_,_,hx,q0,q1⟩,p0,p1⟩
def E5y (a:Act):Prop:=B3r a.kind∧B3r a.n∧B3r a.m∧E4a a.color∧a.text.length≤9223372036854775807
def E6b {H:Type} (d:DataW H) (a:Act):Prop:=∃ d0 d1 d2 d3 d4,d=.agg [d0,d1,d2,d3,d4]∧B5w d0 a.kind∧B5w d1 a.n∧B5w d2 a.m∧E4u d3 a.color∧E1i d4 a.text
set_option maxRecDepth 100000 in
theorem E4j:Cod Tryz.prog 26 Act A2 E6b (fun _ a=>E5y a):=fun {H enc w base sp held fuel cs x} h=>by
 obtain ⟨hl,n,ys,rfl,hx,hyl,hf⟩:=A7j Tryz.underlying26 h
 have hl':cs.length=6:=hl.trans (by kernel_rfl)
 obtain ⟨y0,e0,t0⟩:=hf 0 _ rfl
 obtain ⟨a0,c0,q0,p0⟩:=(A4x Tryz.underlying3) t0
 obtain ⟨y1,e1,t1⟩:=hf 1 _ rfl
 obtain ⟨a1,c1,q1,p1⟩:=(A4x Tryz.underlying3) t1
 obtain ⟨y2,e2,t2⟩:=hf 2 _ rfl
 obtain ⟨a2,c2,q2,p2⟩:=(A4x Tryz.underlying3) t2
 obtain ⟨y3,e3,t3⟩:=hf 3 _ rfl
 obtain ⟨a3,c3,q3,p3⟩:=E5e t3
 obtain ⟨y4,e4,t4⟩:=hf 4 _ rfl
 obtain ⟨a4,c4,q4,p4⟩:=(D3z Tryz.underlying9) t4
 have e:cs=_:=(List.drop_zero).symm.trans (Q1 c0 (Q1 c1 (Q1 c2 (Q1 c3 (Q1 c4 (List.drop_eq_nil_of_le (by omega:cs.length≤6)) (by kernel_rfl)) (by kernel_rfl)) (by kernel_rfl)) (by kernel_rfl)) (by kernel_rfl))
 have hys:ys=[y0,y1,y2,y3,y4]:=by
  match ys,hyl,e0,e1,e2,e3,e4 with
  | [z0,z1,z2,z3,z4],_,e0,e1,e2,e3,e4=>simp at e0 e1 e2 e3 e4;simp [e0,e1,e2,e3,e4]
 rw [hys] at hx
 exact ⟨⟨a0,a1,a2,a3,a4⟩,e,⟨_,_,_,_,_,hx,q0,q1,q2,q3,q4⟩,p0,p1,p2,p3,p4⟩
def E6i (a:Drf):Prop:=C9z .u16 a.kind∧C9z .u16 a.n∧C9z .u16 a.m∧C9z .u32 a.rgb∧a.text.length≤9223372036854775807
def E6c {H:Type} (d:DataW H) (a:Drf):Prop:=∃ d0 d1 d2 d3 d4,d=.agg [d0,d1,d2,d3,d4]∧D7o .u16 d0 a.kind∧D7o .u16 d1 a.n∧D7o .u16 d2 a.m∧D7o .u32 d3 a.rgb∧E1i d4 a.text
set_option maxRecDepth 100000 in
theorem E4n:Cod Tryz.prog 41 Drf I7 E6c (fun _ a=>E6i a):=fun {H enc w base sp held fuel cs x} h=>by
 obtain ⟨hl,n,ys,rfl,hx,hyl,hf⟩:=A7j Tryz.underlying41 h
 have hl':cs.length=5:=hl.trans (by kernel_rfl)
 obtain ⟨y0,e0,t0⟩:=hf 0 _ rfl
 obtain ⟨a0,c0,q0,p0⟩:=(C1n Tryz.underlying38) t0
 obtain ⟨y1,e1,t1⟩:=hf 1 _ rfl
 obtain ⟨a1,c1,q1,p1⟩:=(C1n Tryz.underlying38) t1
 obtain ⟨y2,e2,t2⟩:=hf 2 _ rfl
 obtain ⟨a2,c2,q2,p2⟩:=(C1n Tryz.underlying38) t2
 obtain ⟨y3,e3,t3⟩:=hf 3 _ rfl
 obtain ⟨a3,c3,q3,p3⟩:=(C1n Tryz.underlying39) t3
 obtain ⟨y4,e4,t4⟩:=hf 4 _ rfl
 obtain ⟨a4,c4,q4,p4⟩:=(D3z Tryz.underlying9) t4
 have e:cs=_:=(List.drop_zero).symm.trans (Q1 c0 (Q1 c1 (Q1 c2 (Q1 c3 (Q1 c4 (List.drop_eq_nil_of_le (by omega:cs.length≤5)) (by kernel_rfl)) (by kernel_rfl)) (by kernel_rfl)) (by kernel_rfl)) (by kernel_rfl))
 have hys:ys=[y0,y1,y2,y3,y4]:=by
  match ys,hyl,e0,e1,e2,e3,e4 with
  | [z0,z1,z2,z3,z4],_,e0,e1,e2,e3,e4=>simp at e0 e1 e2 e3 e4;simp [e0,e1,e2,e3,e4]
 rw [hys] at hx
 exact ⟨⟨a0,a1,a2,a3,a4⟩,e,⟨_,_,_,_,_,hx,q0,q1,q2,q3,q4⟩,p0,p1,p2,p3,p4⟩
end Go.Proofs.YtanighkpfmgnbaaGreatDoor
set_option linter.unusedVariables false
namespace Go.Proofs.YtanighkpfmgnbaaGreatDoor
open Go Go.Fen Go.RowKit Go.ChangeShapes
def D2w:DataW Unit→Option Atr
 | .agg [.lit (.int .i64 a),.lit (.int .i64 b),.lit (.int .i64 c)]=>some ⟨a,b,c⟩
 | _=>none
theorem D2h (d:DataW Unit) (a:Atr) (h:E1p d a):D2w d=some a:=by
 obtain ⟨d0,d1,d2,rfl,h0,h1,h2⟩:=h
 unfold B5w at h0 h1 h2
 subst h0 h1 h2
 rfl
def C7g:DataW Unit→Option Spn
 | .agg [.lit (.int .i64 a),.lit (.int .i64 b)]=>some ⟨a,b⟩
 | _=>none
theorem C2m (d:DataW Unit) (a:Spn) (h:D9e d a):C7g d=some a:=by
 obtain ⟨d0,d1,rfl,h0,h1⟩:=h
 unfold B5w at h0 h1
 subst h0 h1
 rfl
def D7w:DataW Unit→Option UInt8
 | .lit (.int .u8 a)=>some (by8 a)
 | _=>none
theorem D5s (d:DataW Unit) (a:UInt8) (h:dU8 d a):D7w d=some a:=by
 unfold dU8 at h
 subst h
 refine congrArg some (UInt8.toNat_inj.1 ?_)
 have h1:=UInt8.toNat_lt a
 have:=B2i (n:=(a.toNat:Int)) (by omega)
 omega
end Go.Proofs.YtanighkpfmgnbaaGreatDoor
