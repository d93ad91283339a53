import Derived.Test.YtanighkpfmgnbaaGreatDoorRows
import Derived.Test.YtanighkpfmgnbaaGreatDoorXA2
import Derived.Test.YtanighkpfmgnbaaGreatDoorXB1
set_option linter.unusedVariables false
namespace Go.Proofs.YtanighkpfmgnbaaGreatDoor
open Go Go.Fen Go.RowKit Go.ChangeShapes
def D1w (k:IntKind) (n:Int):Prop:=k.min≤n∧n≤k.max
def E6s (k:IntKind) (n:Int):List Value:=[.int k n]
def D8i {H:Type} (k:IntKind) (d:DataW H) (n:Int):Prop:=d=.lit (.int k n)
theorem C2d {P:Program} {T:TypeId} {k:IntKind} (ht:P.underlying T=some (.int k)):Cod P T Int (E6s k) (D8i k) (fun _=>D1w k):=fun h=>by
 obtain ⟨n,rfl,rfl,hw⟩:=DataW.trod_int ht h
 exact ⟨n,rfl,rfl,D8o hw⟩
theorem all_nil {h:Hp}:∀ q ∈ ([]:List Pers),q.p h:=fun _ h=>by cases h
theorem all_cons {h:Hp} {q:Pers} {Φ:List Pers} (h1:q.p h) (h2:∀ q ∈ Φ,q.p h):∀ q' ∈ q::Φ,q'.p h:=fun q' hq=>by
 rcases List.mem_cons.1 hq with rfl | hq
 ·exact h1
 ·exact h2 q' hq
def D4n:DataW Unit→Option Int
 | .lit (.int .i64 a)=>some a
 | _=>none
theorem D2o (d:DataW Unit) (a:Int) (h:B6n d a):D4n d=some a:=by
 unfold B6n at h
 subst h
 rfl
def E1p {H:Type} (d:DataW H) (n:Int):Prop:=d=.lit (.int .u64 n)
theorem E0x {P:Program} {T:TypeId} (ht:P.underlying T=some (.int .u64)):Cod P T Int E3c E1p (fun _ _=>True):=fun h=>by
 obtain ⟨n,rfl,rfl,hw⟩:=DataW.trod_int ht h
 exact ⟨n,rfl,rfl,trivial⟩
def D5g:DataW Unit→Option Int
 | .lit (.int .u64 a)=>some a
 | _=>none
theorem D3e (d:DataW Unit) (a:Int) (h:E1p d a):D5g d=some a:=by
 unfold E1p at h
 subst h
 rfl
theorem D2f:Lib.pow10Tab.flatMap E3c=B3y:=by kernel_rfl
def B7g (h:Array Obj) (g:Nat) (cs:List Value):Array Obj:=h.modify g fun
 | .cells _ t fr=>.cells cs.toArray t fr
 | o=>o
mutual
def A5s:DataW Unit→List Value
 | .agg ds=>B9d ds
 | .lit (.int k n)=>[.int k n]
 | .lit (.bool b)=>[.bool b]
 | .lit (.string s)=>[.string ⟨s.toArray⟩]
 | _=>[]
def B9d:List (DataW Unit)→List Value
 | []=>[]
 | d::r=>A5s d++B9d r
end
end Go.Proofs.YtanighkpfmgnbaaGreatDoor
set_option linter.unusedVariables false
set_option linter.unusedSimpArgs false
set_option linter.unnecessarySimpa false
namespace Go.Proofs.YtanighkpfmgnbaaGreatDoor
open Go Go.Fen
open Go.RowKit Go.ChangeShapes
def E4v (a:Atr):Prop:=B4l a.a∧B4l a.b∧B4l a.c
def E3u {H:Type} (d:DataW H) (a:Atr):Prop:=∃ d0 d1 d2,d=.agg [d0,d1,d2]∧B6n d0 a.a∧B6n d1 a.b∧B6n d2 a.c
set_option maxRecDepth 100000 in
theorem E3p:Cod Tryz.prog 243 Atr I1 E3u (fun _ a=>E4v a):=fun {H enc w base sp held fuel cs x} h=>by
 obtain ⟨hl,n,ys,rfl,hx,hyl,hf⟩:=A8j Tryz.underlying243 h
 have hl':cs.length=3:=hl.trans (by kernel_rfl)
 obtain ⟨y0,e0,t0⟩:=hf 0 _ rfl
 obtain ⟨a0,c0,q0,p0⟩:=(A6c Tryz.underlying3) t0
 obtain ⟨y1,e1,t1⟩:=hf 1 _ rfl
 obtain ⟨a1,c1,q1,p1⟩:=(A6c Tryz.underlying3) t1
 obtain ⟨y2,e2,t2⟩:=hf 2 _ rfl
 obtain ⟨a2,c2,q2,p2⟩:=(A6c Tryz.underlying3) t2
 have e:cs=_:=(List.drop_zero).symm.trans (Q7 c0 (Q7 c1 (Q7 c2 (List.drop_eq_nil_of_le (by omega:cs.length≤3)) (by kernel_rfl)) (by kernel_rfl)) (by kernel_rfl))
 have hys:ys=[y0,y1,y2]:=by
  match ys,hyl,e0,e1,e2 with
  | [z0,z1,z2],_,e0,e1,e2=>simp at e0 e1 e2;simp [e0,e1,e2]
 rw [hys] at hx
 exact ⟨⟨a0,a1,a2⟩,e,⟨_,_,_,hx,q0,q1,q2⟩,p0,p1,p2⟩
def E4c (a:Spn):Prop:=B4l a.lo∧B4l a.hi
def E0m {H:Type} (d:DataW H) (a:Spn):Prop:=∃ d0 d1,d=.agg [d0,d1]∧B6n d0 a.lo∧B6n d1 a.hi
set_option maxRecDepth 100000 in
theorem D7g:Cod Tryz.prog 184 Spn B3 E0m (fun _ a=>E4c a):=fun {H enc w base sp held fuel cs x} h=>by
 obtain ⟨hl,n,ys,rfl,hx,hyl,hf⟩:=A8j Tryz.underlying184 h
 have hl':cs.length=2:=hl.trans (by kernel_rfl)
 obtain ⟨y0,e0,t0⟩:=hf 0 _ rfl
 obtain ⟨a0,c0,q0,p0⟩:=(A6c Tryz.underlying3) t0
 obtain ⟨y1,e1,t1⟩:=hf 1 _ rfl
 obtain ⟨a1,c1,q1,p1⟩:=(A6c Tryz.underlying3) t1
 have e:cs=_:=(List.drop_zero).symm.trans (Q7 c0 (Q7 c1 (List.drop_eq_nil_of_le (by omega:cs.length≤2)) (by kernel_rfl)) (by kernel_rfl))
 have hys:ys=[y0,y1]:=by
  match ys,hyl,e0,e1 with
  | [z0,z1],_,e0,e1=>simp at e0 e1;simp [e0,e1]
 rw [hys] at hx
 exact ⟨⟨a0,a1⟩,e,⟨_,_,hx,q0,q1⟩,p0,p1⟩
def E5z (a:Col):Prop:=B4l a.kind∧B4l a.n
def E5u {H:Type} (d:DataW H) (a:Col):Prop:=∃ d0 d1,d=.agg [d0,d1]∧B6n d0 a.kind∧B6n d1 a.n
set_option maxRecDepth 100000 in
theorem E6d:Cod Tryz.prog 24 Col M1 E5u (fun _ a=>E5z a):=fun {H enc w base sp held fuel cs x} h=>by
 obtain ⟨hl,n,ys,rfl,hx,hyl,hf⟩:=A8j Tryz.underlying24 h
 have hl':cs.length=2:=hl.trans (by kernel_rfl)
 obtain ⟨y0,e0,t0⟩:=hf 0 _ rfl
 obtain ⟨a0,c0,q0,p0⟩:=(A6c Tryz.underlying3) t0
 obtain ⟨y1,e1,t1⟩:=hf 1 _ rfl
 obtain ⟨a1,c1,q1,p1⟩:=(A6c Tryz.underlying3) t1
 have e:cs=_:=(List.drop_zero).symm.trans (Q7 c0 (Q7 c1 (List.drop_eq_nil_of_le (by omega:cs.length≤2)) (by kernel_rfl)) (by kernel_rfl))
 have hys:ys=[y0,y1]:=by
  match ys,hyl,e0,e1 with
  | [z0,z1],_,e0,e1=>simp at e0 e1;simp [e0,e1]
 rw [hys] at hx
 exact ⟨⟨a0,a1⟩,e,⟨_,_,hx,q0,q1⟩,p0,p1⟩
def E6x (a:Act):Prop:=B4l a.kind∧B4l a.n∧B4l a.m∧E5z a.color∧a.text.length≤9223372036854775807
def E6w {H:Type} (d:DataW H) (a:Act):Prop:=∃ d0 d1 d2 d3 d4,d=.agg [d0,d1,d2,d3,d4]∧B6n d0 a.kind∧B6n d1 a.n∧B6n d2 a.m∧E5u d3 a.color∧E4o d4 a.text
set_option maxRecDepth 100000 in
theorem E5q:Cod Tryz.prog 26 Act A0 E6w (fun _ a=>E6x a):=fun {H enc w base sp held fuel cs x} h=>by
 obtain ⟨hl,n,ys,rfl,hx,hyl,hf⟩:=A8j Tryz.underlying26 h
 have hl':cs.length=6:=hl.trans (by kernel_rfl)
 obtain ⟨y0,e0,t0⟩:=hf 0 _ rfl
 obtain ⟨a0,c0,q0,p0⟩:=(A6c Tryz.underlying3) t0
 obtain ⟨y1,e1,t1⟩:=hf 1 _ rfl
 obtain ⟨a1,c1,q1,p1⟩:=(A6c Tryz.underlying3) t1
 obtain ⟨y2,e2,t2⟩:=hf 2 _ rfl
 obtain ⟨a2,c2,q2,p2⟩:=(A6c Tryz.underlying3) t2
 obtain ⟨y3,e3,t3⟩:=hf 3 _ rfl
 obtain ⟨a3,c3,q3,p3⟩:=E6d t3
 obtain ⟨y4,e4,t4⟩:=hf 4 _ rfl
 obtain ⟨a4,c4,q4,p4⟩:=(D4g Tryz.underlying9) t4
 have e:cs=_:=(List.drop_zero).symm.trans (Q7 c0 (Q7 c1 (Q7 c2 (Q7 c3 (Q7 c4 (List.drop_eq_nil_of_le (by omega:cs.length≤6)) (by kernel_rfl)) (by kernel_rfl)) (by kernel_rfl)) (by kernel_rfl)) (by kernel_rfl))
 have hys:ys=[y0,y1,y2,y3,y4]:=by
  match ys,hyl,e0,e1,e2,e3,e4 with
  | [z0,z1,z2,z3,z4],_,e0,e1,e2,e3,e4=>simp at e0 e1 e2 e3 e4;simp [e0,e1,e2,e3,e4]
 rw [hys] at hx
 exact ⟨⟨a0,a1,a2,a3,a4⟩,e,⟨_,_,_,_,_,hx,q0,q1,q2,q3,q4⟩,p0,p1,p2,p3,p4⟩
def E5p (a:Drf):Prop:=D1w .u16 a.kind∧D1w .u16 a.n∧D1w .u16 a.m∧D1w .u32 a.rgb∧a.text.length≤9223372036854775807
def E6j {H:Type} (d:DataW H) (a:Drf):Prop:=∃ d0 d1 d2 d3 d4,d=.agg [d0,d1,d2,d3,d4]∧D8i .u16 d0 a.kind∧D8i .u16 d1 a.n∧D8i .u16 d2 a.m∧D8i .u32 d3 a.rgb∧E4o d4 a.text
set_option maxRecDepth 100000 in
theorem E5o:Cod Tryz.prog 41 Drf M5 E6j (fun _ a=>E5p a):=fun {H enc w base sp held fuel cs x} h=>by
 obtain ⟨hl,n,ys,rfl,hx,hyl,hf⟩:=A8j Tryz.underlying41 h
 have hl':cs.length=5:=hl.trans (by kernel_rfl)
 obtain ⟨y0,e0,t0⟩:=hf 0 _ rfl
 obtain ⟨a0,c0,q0,p0⟩:=(C2d Tryz.underlying38) t0
 obtain ⟨y1,e1,t1⟩:=hf 1 _ rfl
 obtain ⟨a1,c1,q1,p1⟩:=(C2d Tryz.underlying38) t1
 obtain ⟨y2,e2,t2⟩:=hf 2 _ rfl
 obtain ⟨a2,c2,q2,p2⟩:=(C2d Tryz.underlying38) t2
 obtain ⟨y3,e3,t3⟩:=hf 3 _ rfl
 obtain ⟨a3,c3,q3,p3⟩:=(C2d Tryz.underlying39) t3
 obtain ⟨y4,e4,t4⟩:=hf 4 _ rfl
 obtain ⟨a4,c4,q4,p4⟩:=(D4g Tryz.underlying9) t4
 have e:cs=_:=(List.drop_zero).symm.trans (Q7 c0 (Q7 c1 (Q7 c2 (Q7 c3 (Q7 c4 (List.drop_eq_nil_of_le (by omega:cs.length≤5)) (by kernel_rfl)) (by kernel_rfl)) (by kernel_rfl)) (by kernel_rfl)) (by kernel_rfl))
 have hys:ys=[y0,y1,y2,y3,y4]:=by
  match ys,hyl,e0,e1,e2,e3,e4 with
  | [z0,z1,z2,z3,z4],_,e0,e1,e2,e3,e4=>simp at e0 e1 e2 e3 e4;simp [e0,e1,e2,e3,e4]
 rw [hys] at hx
 exact ⟨⟨a0,a1,a2,a3,a4⟩,e,⟨_,_,_,_,_,hx,q0,q1,q2,q3,q4⟩,p0,p1,p2,p3,p4⟩
end Go.Proofs.YtanighkpfmgnbaaGreatDoor
set_option linter.unusedVariables false
namespace Go.Proofs.YtanighkpfmgnbaaGreatDoor
open Go Go.Fen Go.RowKit Go.ChangeShapes
def D3o:DataW Unit→Option Atr
 | .agg [.lit (.int .i64 a),.lit (.int .i64 b),.lit (.int .i64 c)]=>some ⟨a,b,c⟩
 | _=>none
theorem D2e (d:DataW Unit) (a:Atr) (h:E3u d a):D3o d=some a:=by
 obtain ⟨d0,d1,d2,rfl,h0,h1,h2⟩:=h
 unfold B6n at h0 h1 h2
 subst h0 h1 h2
 rfl
def C8i:DataW Unit→Option Spn
 | .agg [.lit (.int .i64 a),.lit (.int .i64 b)]=>some ⟨a,b⟩
 | _=>none
theorem C4l (d:DataW Unit) (a:Spn) (h:E0m d a):C8i d=some a:=by
 obtain ⟨d0,d1,rfl,h0,h1⟩:=h
 unfold B6n at h0 h1
 subst h0 h1
 rfl
def D8p:DataW Unit→Option UInt8
 | .lit (.int .u8 a)=>some (by8 a)
 | _=>none
theorem D6f (d:DataW Unit) (a:UInt8) (h:dU8 d a):D8p d=some a:=by
 unfold dU8 at h
 subst h
 refine congrArg some (UInt8.toNat_inj.1 ?_)
 have h1:=UInt8.toNat_lt a
 have:=B2t (n:=(a.toNat:Int)) (by omega)
 omega
end Go.Proofs.YtanighkpfmgnbaaGreatDoor
