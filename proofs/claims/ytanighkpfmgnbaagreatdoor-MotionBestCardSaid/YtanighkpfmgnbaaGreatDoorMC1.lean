import Derived.Test.YtanighkpfmgnbaaGreatDoorRows
import Derived.Test.YtanighkpfmgnbaaGreatDoorMA2
import Derived.Test.YtanighkpfmgnbaaGreatDoorMB1
import Derived.Test.YtanighkpfmgnbaaGreatDoorMQ1
set_option linter.unusedVariables false
namespace Go.Proofs.YtanighkpfmgnbaaGreatDoor
open Go Go.Fen Go.RowKit Go.ChangeShapes
theorem all_nil {h:Hp}:∀ q ∈ ([]:List Pers),q.p h:=fun _ h=>by cases h
theorem all_cons {h:Hp} {q:Pers} {Φ:List Pers} (h1:q.p h) (h2:∀ q ∈ Φ,q.p h):∀ q' ∈ q::Φ,q'.p h:=fun q' hq=>by
 rcases List.mem_cons.1 hq with rfl | hq
 ·exact h1
 ·exact h2 q' hq
def D6o:DataW Unit→Option Int
 | .lit (.int .i64 a)=>some a
 | _=>none
theorem D3c (d:DataW Unit) (a:Int) (h:B8b d a):D6o d=some a:=by
 unfold B8b at h
 subst h
 rfl
def E1z {H:Type} (d:DataW H) (n:Int):Prop:=d=.lit (.int .u64 n)
theorem E2g {P:Program} {T:TypeId} (ht:P.underlying T=some (.int .u64)):Cod P T Int E4g E1z (fun _ _=>True):=fun h=>by
 obtain ⟨n,rfl,rfl,hw⟩:=DataW.trod_int ht h
 exact ⟨n,rfl,rfl,trivial⟩
def D5x:DataW Unit→Option Int
 | .lit (.int .u64 a)=>some a
 | _=>none
theorem D3m (d:DataW Unit) (a:Int) (h:E1z d a):D5x d=some a:=by
 unfold E1z at h
 subst h
 rfl
theorem D2x:Lib.pow10Tab.flatMap E4g=B3h:=by kernel_rfl
def B7l (h:Array Obj) (g:Nat) (cs:List Value):Array Obj:=h.modify g fun
 | .cells _ t fr=>.cells cs.toArray t fr
 | o=>o
mutual
def A5z:DataW Unit→List Value
 | .agg ds=>B9g ds
 | .lit (.int k n)=>[.int k n]
 | .lit (.bool b)=>[.bool b]
 | .lit (.string s)=>[.string ⟨s.toArray⟩]
 | _=>[]
def B9g:List (DataW Unit)→List Value
 | []=>[]
 | d::r=>A5z d++B9g r
end
end Go.Proofs.YtanighkpfmgnbaaGreatDoor
set_option linter.unusedVariables false
set_option linter.unusedSimpArgs false
set_option linter.unnecessarySimpa false
namespace Go.Proofs.YtanighkpfmgnbaaGreatDoor
open Go Go.Fen
open Go.RowKit Go.ChangeShapes
def E8i (a:Atr):Prop:=B4q a.a∧B4q a.b∧B4q a.c
def E6i {H:Type} (d:DataW H) (a:Atr):Prop:=∃ d0 d1 d2,d=.agg [d0,d1,d2]∧B8b d0 a.a∧B8b d1 a.b∧B8b d2 a.c
set_option maxRecDepth 100000 in
theorem E4l:Cod Tryz.prog 243 Atr I3 E6i (fun _ a=>E8i a):=fun {H enc w base sp held fuel cs x} h=>by
 obtain ⟨hl,n,ys,rfl,hx,hyl,hf⟩:=B1i Tryz.underlying243 h
 have hl':cs.length=3:=hl.trans (by kernel_rfl)
 obtain ⟨y0,e0,t0⟩:=hf 0 _ rfl
 obtain ⟨a0,c0,q0,p0⟩:=(A5m Tryz.underlying3) t0
 obtain ⟨y1,e1,t1⟩:=hf 1 _ rfl
 obtain ⟨a1,c1,q1,p1⟩:=(A5m Tryz.underlying3) t1
 obtain ⟨y2,e2,t2⟩:=hf 2 _ rfl
 obtain ⟨a2,c2,q2,p2⟩:=(A5m Tryz.underlying3) t2
 have e:cs=_:=(List.drop_zero).symm.trans (A1n c0 (A1n c1 (A1n c2 (List.drop_eq_nil_of_le (by omega:cs.length≤3)) (by kernel_rfl)) (by kernel_rfl)) (by kernel_rfl))
 have hys:ys=[y0,y1,y2]:=by
  match ys,hyl,e0,e1,e2 with
  | [z0,z1,z2],_,e0,e1,e2=>simp at e0 e1 e2;simp [e0,e1,e2]
 rw [hys] at hx
 exact ⟨⟨a0,a1,a2⟩,e,⟨_,_,_,hx,q0,q1,q2⟩,p0,p1,p2⟩
def E6q (a:Spn):Prop:=B4q a.lo∧B4q a.hi
def E2t {H:Type} (d:DataW H) (a:Spn):Prop:=∃ d0 d1,d=.agg [d0,d1]∧B8b d0 a.lo∧B8b d1 a.hi
set_option maxRecDepth 100000 in
theorem D9c:Cod Tryz.prog 184 Spn B1 E2t (fun _ a=>E6q a):=fun {H enc w base sp held fuel cs x} h=>by
 obtain ⟨hl,n,ys,rfl,hx,hyl,hf⟩:=B1i Tryz.underlying184 h
 have hl':cs.length=2:=hl.trans (by kernel_rfl)
 obtain ⟨y0,e0,t0⟩:=hf 0 _ rfl
 obtain ⟨a0,c0,q0,p0⟩:=(A5m Tryz.underlying3) t0
 obtain ⟨y1,e1,t1⟩:=hf 1 _ rfl
 obtain ⟨a1,c1,q1,p1⟩:=(A5m Tryz.underlying3) t1
 have e:cs=_:=(List.drop_zero).symm.trans (A1n c0 (A1n c1 (List.drop_eq_nil_of_le (by omega:cs.length≤2)) (by kernel_rfl)) (by kernel_rfl))
 have hys:ys=[y0,y1]:=by
  match ys,hyl,e0,e1 with
  | [z0,z1],_,e0,e1=>simp at e0 e1;simp [e0,e1]
 rw [hys] at hx
 exact ⟨⟨a0,a1⟩,e,⟨_,_,hx,q0,q1⟩,p0,p1⟩
def E8q (a:Plc):Prop:=B4q a.row∧B4q a.col
def E9m {H:Type} (d:DataW H) (a:Plc):Prop:=∃ d0 d1,d=.agg [d0,d1]∧B8b d0 a.row∧B8b d1 a.col
set_option maxRecDepth 100000 in
theorem E6x:Cod Tryz.prog 54 Plc I0 E9m (fun _ a=>E8q a):=fun {H enc w base sp held fuel cs x} h=>by
 obtain ⟨hl,n,ys,rfl,hx,hyl,hf⟩:=B1i Tryz.underlying54 h
 have hl':cs.length=2:=hl.trans (by kernel_rfl)
 obtain ⟨y0,e0,t0⟩:=hf 0 _ rfl
 obtain ⟨a0,c0,q0,p0⟩:=(A5m Tryz.underlying3) t0
 obtain ⟨y1,e1,t1⟩:=hf 1 _ rfl
 obtain ⟨a1,c1,q1,p1⟩:=(A5m Tryz.underlying3) t1
 have e:cs=_:=(List.drop_zero).symm.trans (A1n c0 (A1n c1 (List.drop_eq_nil_of_le (by omega:cs.length≤2)) (by kernel_rfl)) (by kernel_rfl))
 have hys:ys=[y0,y1]:=by
  match ys,hyl,e0,e1 with
  | [z0,z1],_,e0,e1=>simp at e0 e1;simp [e0,e1]
 rw [hys] at hx
 exact ⟨⟨a0,a1⟩,e,⟨_,_,hx,q0,q1⟩,p0,p1⟩
def E9b (a:Cur):Prop:=B4q a.row∧B4q a.col
def E8z {H:Type} (d:DataW H) (a:Cur):Prop:=∃ d0 d1 d2,d=.agg [d0,d1,d2]∧B8b d0 a.row∧B8b d1 a.col∧E3m d2 a.wrap
set_option maxRecDepth 100000 in
theorem E7w:Cod Tryz.prog 52 Cur H2 E8z (fun _ a=>E9b a):=fun {H enc w base sp held fuel cs x} h=>by
 obtain ⟨hl,n,ys,rfl,hx,hyl,hf⟩:=B1i Tryz.underlying52 h
 have hl':cs.length=3:=hl.trans (by kernel_rfl)
 obtain ⟨y0,e0,t0⟩:=hf 0 _ rfl
 obtain ⟨a0,c0,q0,p0⟩:=(A5m Tryz.underlying3) t0
 obtain ⟨y1,e1,t1⟩:=hf 1 _ rfl
 obtain ⟨a1,c1,q1,p1⟩:=(A5m Tryz.underlying3) t1
 obtain ⟨y2,e2,t2⟩:=hf 2 _ rfl
 obtain ⟨a2,c2,q2,p2⟩:=(E0f Tryz.underlying4) t2
 have e:cs=_:=(List.drop_zero).symm.trans (A1n c0 (A1n c1 (A1n c2 (List.drop_eq_nil_of_le (by omega:cs.length≤3)) (by kernel_rfl)) (by kernel_rfl)) (by kernel_rfl))
 have hys:ys=[y0,y1,y2]:=by
  match ys,hyl,e0,e1,e2 with
  | [z0,z1,z2],_,e0,e1,e2=>simp at e0 e1 e2;simp [e0,e1,e2]
 rw [hys] at hx
 exact ⟨⟨a0,a1,a2⟩,e,⟨_,_,_,hx,q0,q1,q2⟩,p0,p1⟩
end Go.Proofs.YtanighkpfmgnbaaGreatDoor
set_option linter.unusedVariables false
namespace Go.Proofs.YtanighkpfmgnbaaGreatDoor
open Go Go.Fen Go.RowKit Go.ChangeShapes
def D5p:DataW Unit→Option Atr
 | .agg [.lit (.int .i64 a),.lit (.int .i64 b),.lit (.int .i64 c)]=>some ⟨a,b,c⟩
 | _=>none
theorem D4k (d:DataW Unit) (a:Atr) (h:E6i d a):D5p d=some a:=by
 obtain ⟨d0,d1,d2,rfl,h0,h1,h2⟩:=h
 unfold B8b at h0 h1 h2
 subst h0 h1 h2
 rfl
def C9h:DataW Unit→Option Spn
 | .agg [.lit (.int .i64 a),.lit (.int .i64 b)]=>some ⟨a,b⟩
 | _=>none
theorem C3k (d:DataW Unit) (a:Spn) (h:E2t d a):C9h d=some a:=by
 obtain ⟨d0,d1,rfl,h0,h1⟩:=h
 unfold B8b at h0 h1
 subst h0 h1
 rfl
def D8n:DataW Unit→Option UInt8
 | .lit (.int .u8 a)=>some (by8 a)
 | _=>none
theorem D7b (d:DataW Unit) (a:UInt8) (h:dU8 d a):D8n d=some a:=by
 unfold dU8 at h
 subst h
 refine congrArg some (UInt8.toNat_inj.1 ?_)
 have h1:=UInt8.toNat_lt a
 have:=B2f (n:=(a.toNat:Int)) (by omega)
 omega
end Go.Proofs.YtanighkpfmgnbaaGreatDoor
