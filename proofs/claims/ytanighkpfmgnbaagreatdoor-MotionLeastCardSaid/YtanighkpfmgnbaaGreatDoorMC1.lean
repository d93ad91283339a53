import Derived.Test.YtanighkpfmgnbaaGreatDoorRows
import Derived.Test.YtanighkpfmgnbaaGreatDoorMA2
import Derived.Test.YtanighkpfmgnbaaGreatDoorMB1
import Derived.Test.YtanighkpfmgnbaaGreatDoorMQ1
set_option linter.unusedVariables false
namespace Go.Proofs.YtanighkpfmgnbaaGreatDoor
open Go Go.Fen Go.RowKit Go.ChangeShapes
theorem all_nil {h:Hp}:∀ q ∈ ([]:List Pers),q.p h:=fun _ h=>by cases h
theorem all_cons {h:Hp} {q:Pers} {Φ:List Pers} (h1:q.p h) (h2:∀ q ∈ Φ,q.p h):∀ q' ∈ q::Φ,q'.p h:=fun q' hq=>by
 rcases List.mem_cons.1 hq with rfl | hq
 ·exact h1
 ·exact h2 q' hq
def D1o:DataW Unit→Option Int
 | .lit (.int .i64 a)=>some a
 | _=>none
theorem D0c (d:DataW Unit) (a:Int) (h:B6m d a):D1o d=some a:=by
 unfold B6m at h
 subst h
 rfl
def D8g {H:Type} (d:DataW H) (n:Int):Prop:=d=.lit (.int .u64 n)
theorem D7s {P:Program} {T:TypeId} (ht:P.underlying T=some (.int .u64)):Cod P T Int E1y D8g (fun _ _=>True):=fun h=>by
 obtain ⟨n,rfl,rfl,hw⟩:=DataW.trod_int ht h
 exact ⟨n,rfl,rfl,trivial⟩
def D2u:DataW Unit→Option Int
 | .lit (.int .u64 a)=>some a
 | _=>none
theorem D0f (d:DataW Unit) (a:Int) (h:D8g d a):D2u d=some a:=by
 unfold D8g at h
 subst h
 rfl
theorem D1d:Lib.pow10Tab.flatMap E1y=B1z:=by kernel_rfl
def B5t (h:Array Obj) (g:Nat) (cs:List Value):Array Obj:=h.modify g fun
 | .cells _ t fr=>.cells cs.toArray t fr
 | o=>o
mutual
def A4h:DataW Unit→List Value
 | .agg ds=>B6w ds
 | .lit (.int k n)=>[.int k n]
 | .lit (.bool b)=>[.bool b]
 | .lit (.string s)=>[.string ⟨s.toArray⟩]
 | _=>[]
def B6w:List (DataW Unit)→List Value
 | []=>[]
 | d::r=>A4h d++B6w r
end
end Go.Proofs.YtanighkpfmgnbaaGreatDoor
set_option linter.unusedVariables false
set_option linter.unusedSimpArgs false
set_option linter.unnecessarySimpa false
namespace Go.Proofs.YtanighkpfmgnbaaGreatDoor
open Go Go.Fen
open Go.RowKit Go.ChangeShapes
def E3w (a:Atr):Prop:=B3r a.a∧B3r a.b∧B3r a.c
def E2o {H:Type} (d:DataW H) (a:Atr):Prop:=∃ d0 d1 d2,d=.agg [d0,d1,d2]∧B6m d0 a.a∧B6m d1 a.b∧B6m d2 a.c
set_option maxRecDepth 100000 in
theorem E1s:Cod Tryz.prog 243 Atr H7 E2o (fun _ a=>E3w a):=fun {H enc w base sp held fuel cs x} h=>by
 obtain ⟨hl,n,ys,rfl,hx,hyl,hf⟩:=A9x Tryz.underlying243 h
 have hl':cs.length=3:=hl.trans (by kernel_rfl)
 obtain ⟨y0,e0,t0⟩:=hf 0 _ rfl
 obtain ⟨a0,c0,q0,p0⟩:=(A3x Tryz.underlying3) t0
 obtain ⟨y1,e1,t1⟩:=hf 1 _ rfl
 obtain ⟨a1,c1,q1,p1⟩:=(A3x Tryz.underlying3) t1
 obtain ⟨y2,e2,t2⟩:=hf 2 _ rfl
 obtain ⟨a2,c2,q2,p2⟩:=(A3x Tryz.underlying3) t2
 have e:cs=_:=(List.drop_zero).symm.trans (A0t c0 (A0t c1 (A0t c2 (List.drop_eq_nil_of_le (by omega:cs.length≤3)) (by kernel_rfl)) (by kernel_rfl)) (by kernel_rfl))
 have hys:ys=[y0,y1,y2]:=by
  match ys,hyl,e0,e1,e2 with
  | [z0,z1,z2],_,e0,e1,e2=>simp at e0 e1 e2;simp [e0,e1,e2]
 rw [hys] at hx
 exact ⟨⟨a0,a1,a2⟩,e,⟨_,_,_,hx,q0,q1,q2⟩,p0,p1,p2⟩
def E1l (a:Spn):Prop:=B3r a.lo∧B3r a.hi
def D9b {H:Type} (d:DataW H) (a:Spn):Prop:=∃ d0 d1,d=.agg [d0,d1]∧B6m d0 a.lo∧B6m d1 a.hi
set_option maxRecDepth 100000 in
theorem D5f:Cod Tryz.prog 184 Spn A8 D9b (fun _ a=>E1l a):=fun {H enc w base sp held fuel cs x} h=>by
 obtain ⟨hl,n,ys,rfl,hx,hyl,hf⟩:=A9x Tryz.underlying184 h
 have hl':cs.length=2:=hl.trans (by kernel_rfl)
 obtain ⟨y0,e0,t0⟩:=hf 0 _ rfl
 obtain ⟨a0,c0,q0,p0⟩:=(A3x Tryz.underlying3) t0
 obtain ⟨y1,e1,t1⟩:=hf 1 _ rfl
 obtain ⟨a1,c1,q1,p1⟩:=(A3x Tryz.underlying3) t1
 have e:cs=_:=(List.drop_zero).symm.trans (A0t c0 (A0t c1 (List.drop_eq_nil_of_le (by omega:cs.length≤2)) (by kernel_rfl)) (by kernel_rfl))
 have hys:ys=[y0,y1]:=by
  match ys,hyl,e0,e1 with
  | [z0,z1],_,e0,e1=>simp at e0 e1;simp [e0,e1]
 rw [hys] at hx
 exact ⟨⟨a0,a1⟩,e,⟨_,_,hx,q0,q1⟩,p0,p1⟩
def E5a (a:Plc):Prop:=B3r a.row∧B3r a.col
def E5f {H:Type} (d:DataW H) (a:Plc):Prop:=∃ d0 d1,d=.agg [d0,d1]∧B6m d0 a.row∧B6m d1 a.col
set_option maxRecDepth 100000 in
theorem E4j:Cod Tryz.prog 54 Plc P3 E5f (fun _ a=>E5a a):=fun {H enc w base sp held fuel cs x} h=>by
 obtain ⟨hl,n,ys,rfl,hx,hyl,hf⟩:=A9x Tryz.underlying54 h
 have hl':cs.length=2:=hl.trans (by kernel_rfl)
 obtain ⟨y0,e0,t0⟩:=hf 0 _ rfl
 obtain ⟨a0,c0,q0,p0⟩:=(A3x Tryz.underlying3) t0
 obtain ⟨y1,e1,t1⟩:=hf 1 _ rfl
 obtain ⟨a1,c1,q1,p1⟩:=(A3x Tryz.underlying3) t1
 have e:cs=_:=(List.drop_zero).symm.trans (A0t c0 (A0t c1 (List.drop_eq_nil_of_le (by omega:cs.length≤2)) (by kernel_rfl)) (by kernel_rfl))
 have hys:ys=[y0,y1]:=by
  match ys,hyl,e0,e1 with
  | [z0,z1],_,e0,e1=>simp at e0 e1;simp [e0,e1]
 rw [hys] at hx
 exact ⟨⟨a0,a1⟩,e,⟨_,_,hx,q0,q1⟩,p0,p1⟩
def E4p (a:Cur):Prop:=B3r a.row∧B3r a.col
def E4q {H:Type} (d:DataW H) (a:Cur):Prop:=∃ d0 d1 d2,d=.agg [d0,d1,d2]∧B6m d0 a.row∧B6m d1 a.col∧D9q d2 a.wrap
set_option maxRecDepth 100000 in
theorem E2y:Cod Tryz.prog 52 Cur O0 E4q (fun _ a=>E4p a):=fun {H enc w base sp held fuel cs x} h=>by
 obtain ⟨hl,n,ys,rfl,hx,hyl,hf⟩:=A9x Tryz.underlying52 h
 have hl':cs.length=3:=hl.trans (by kernel_rfl)
 obtain ⟨y0,e0,t0⟩:=hf 0 _ rfl
 obtain ⟨a0,c0,q0,p0⟩:=(A3x Tryz.underlying3) t0
 obtain ⟨y1,e1,t1⟩:=hf 1 _ rfl
 obtain ⟨a1,c1,q1,p1⟩:=(A3x Tryz.underlying3) t1
 obtain ⟨y2,e2,t2⟩:=hf 2 _ rfl
 obtain ⟨a2,c2,q2,p2⟩:=(D4n Tryz.underlying4) t2
 have e:cs=_:=(List.drop_zero).symm.trans (A0t c0 (A0t c1 (A0t c2 (List.drop_eq_nil_of_le (by omega:cs.length≤3)) (by kernel_rfl)) (by kernel_rfl)) (by kernel_rfl))
 have hys:ys=[y0,y1,y2]:=by
  match ys,hyl,e0,e1,e2 with
  | [z0,z1,z2],_,e0,e1,e2=>simp at e0 e1 e2;simp [e0,e1,e2]
 rw [hys] at hx
 exact ⟨⟨a0,a1,a2⟩,e,⟨_,_,_,hx,q0,q1,q2⟩,p0,p1⟩
end Go.Proofs.YtanighkpfmgnbaaGreatDoor
set_option linter.unusedVariables false
namespace Go.Proofs.YtanighkpfmgnbaaGreatDoor
open Go Go.Fen Go.RowKit Go.ChangeShapes
def D2m:DataW Unit→Option Atr
 | .agg [.lit (.int .i64 a),.lit (.int .i64 b),.lit (.int .i64 c)]=>some ⟨a,b,c⟩
 | _=>none
theorem D0x (d:DataW Unit) (a:Atr) (h:E2o d a):D2m d=some a:=by
 obtain ⟨d0,d1,d2,rfl,h0,h1,h2⟩:=h
 unfold B6m at h0 h1 h2
 subst h0 h1 h2
 rfl
def C6q:DataW Unit→Option Spn
 | .agg [.lit (.int .i64 a),.lit (.int .i64 b)]=>some ⟨a,b⟩
 | _=>none
theorem C2v (d:DataW Unit) (a:Spn) (h:D9b d a):C6q d=some a:=by
 obtain ⟨d0,d1,rfl,h0,h1⟩:=h
 unfold B6m at h0 h1
 subst h0 h1
 rfl
def D7a:DataW Unit→Option UInt8
 | .lit (.int .u8 a)=>some (by8 a)
 | _=>none
theorem D3h (d:DataW Unit) (a:UInt8) (h:dU8 d a):D7a d=some a:=by
 unfold dU8 at h
 subst h
 refine congrArg some (UInt8.toNat_inj.1 ?_)
 have h1:=UInt8.toNat_lt a
 have:=B0z (n:=(a.toNat:Int)) (by omega)
 omega
end Go.Proofs.YtanighkpfmgnbaaGreatDoor
