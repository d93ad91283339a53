import Derived.Test.YtioaekgoceinkaaGreatDoorRows
import Derived.Test.YtioaekgoceinkaaGreatDoorMA2
import Derived.Test.YtioaekgoceinkaaGreatDoorMB1
import Derived.Test.YtioaekgoceinkaaGreatDoorMQ1
set_option linter.unusedVariables false
namespace Go.Proofs.YtioaekgoceinkaaGreatDoor
open Go Go.Fen Go.RowKit Go.ChangeShapes
theorem all_nil {h:Hp}:∀ q ∈ ([]:List Pers),q.p h:=fun _ h=>by cases h
theorem all_cons {h:Hp} {q:Pers} {Φ:List Pers} (c:q.p h) (d:∀ q ∈ Φ,q.p h):∀ b ∈ q::Φ,b.p h:=fun b a=>by
 rcases List.mem_cons.1 a with rfl | a
 ·exact c
 ·exact d b a
def D4r:DataW Unit→Option Int
 | .lit (.int .i64 a)=>some a
 | _=>none
theorem D3d (d:DataW Unit) (a:Int) (h:B7n d a):D4r d=some a:=by
 unfold B7n at h
 subst h
 rfl
def D9e {H:Type} (d:DataW H) (n:Int):Prop:=d=.lit (.int .u64 n)
theorem D9v {P:Program} {T:TypeId} (a:P.underlying T=some (.int .u64)):Cod P T Int E0w D9e (fun _ _=>True):=fun h=>by
 obtain ⟨n,rfl,rfl,b⟩:=DataW.trod_int a h
 exact ⟨n,rfl,rfl,trivial⟩
def D4l:DataW Unit→Option Int
 | .lit (.int .u64 a)=>some a
 | _=>none
theorem D2l (d:DataW Unit) (a:Int) (h:D9e d a):D4l d=some a:=by
 unfold D9e at h
 subst h
 rfl
theorem D3b:Lib.pow10Tab.flatMap E0w=B2w:=by kernel_rfl
def B4u (h:Array Obj) (g:Nat) (cs:List Value):Array Obj:=h.modify g fun
 | .cells _ t fr=>.cells cs.toArray t fr
 | o=>o
mutual
def A3n:DataW Unit→List Value
 | .agg ds=>B9i ds
 | .lit (.int k n)=>[.int k n]
 | .lit (.bool b)=>[.bool b]
 | .lit (.string s)=>[.string ⟨s.toArray⟩]
 | _=>[]
def B9i:List (DataW Unit)→List Value
 | []=>[]
 | d::r=>A3n d++B9i r
end
end Go.Proofs.YtioaekgoceinkaaGreatDoor
set_option linter.unusedVariables false
set_option linter.unusedSimpArgs false
set_option linter.unnecessarySimpa false
namespace Go.Proofs.YtioaekgoceinkaaGreatDoor
open Go Go.Fen
open Go.RowKit Go.ChangeShapes
def E3a (a:Atr):Prop:=B5s a.a∧B5s a.b∧B5s a.c
def E1g {H:Type} (d:DataW H) (a:Atr):Prop:=∃ f e g,d=.agg [f,e,g]∧B7n f a.a∧B7n e a.b∧B7n g a.c
set_option maxRecDepth 100000 in
theorem E2j:Cod Tryz.prog 275 Atr H7 E1g (fun _ a=>E3a a):=fun {H enc w base sp held fuel cs x} h=>by
 obtain ⟨hl,n,ys,rfl,j,f,g⟩:=B0y Tryz.underlying275 h
 have a3:cs.length=3:=hl.trans okl
 obtain ⟨z,b,s⟩:=g 0 _ rfl
 obtain ⟨m,c0,o,q⟩:=(A4m Tryz.underlying3) s
 obtain ⟨t,d,t1⟩:=g 1 _ rfl
 obtain ⟨a1,k,u,p1⟩:=(A4m Tryz.underlying3) t1
 obtain ⟨r,c,l⟩:=g 2 _ rfl
 obtain ⟨a2,v,p,y⟩:=(A4m Tryz.underlying3) l
 have e:cs=_:=(List.drop_zero).symm.trans (A0w c0 (A0w k (A0w v (List.drop_eq_nil_of_le (by omega:cs.length≤3)) okl) okl) okl)
 have i:ys=[z,t,r]:=by
  match ys,f,b,d,c with
  | [z0,z1,z2],_,b,d,c=>simp at b d c;simp [b,d,c]
 rw [i] at j
 exact ⟨⟨m,a1,a2⟩,e,⟨_,_,_,j,o,u,p⟩,q,p1,y⟩
def E1r (a:Spn):Prop:=B5s a.lo∧B5s a.hi
def D9u {H:Type} (d:DataW H) (a:Spn):Prop:=∃ c b,d=.agg [c,b]∧B7n c a.lo∧B7n b a.hi
set_option maxRecDepth 100000 in
theorem D7z:Cod Tryz.prog 144 Spn B7 D9u (fun _ a=>E1r a):=fun {H enc w base sp held fuel cs x} h=>by
 obtain ⟨v,n,ys,rfl,g,d,i⟩:=B0y Tryz.underlying144 h
 have s:cs.length=2:=v.trans okl
 obtain ⟨r,b,o⟩:=i 0 _ rfl
 obtain ⟨k,c0,l,m⟩:=(A4m Tryz.underlying3) o
 obtain ⟨p,c,t⟩:=i 1 _ rfl
 obtain ⟨u,j,q,p1⟩:=(A4m Tryz.underlying3) t
 have e:cs=_:=(List.drop_zero).symm.trans (A0w c0 (A0w j (List.drop_eq_nil_of_le (by omega:cs.length≤2)) okl) okl)
 have f:ys=[r,p]:=by
  match ys,d,b,c with
  | [z0,z1],_,b,c=>simp at b c;simp [b,c]
 rw [f] at g
 exact ⟨⟨k,u⟩,e,⟨_,_,g,l,q⟩,m,p1⟩
def E4c (a:Plc):Prop:=B5s a.row∧B5s a.col
def E4e {H:Type} (d:DataW H) (a:Plc):Prop:=∃ c b,d=.agg [c,b]∧B7n c a.row∧B7n b a.col
set_option maxRecDepth 100000 in
theorem E3n:Cod Tryz.prog 25 Plc X5 E4e (fun _ a=>E4c a):=fun {H enc w base sp held fuel cs x} h=>by
 obtain ⟨v,n,ys,rfl,g,d,i⟩:=B0y Tryz.underlying25 h
 have s:cs.length=2:=v.trans okl
 obtain ⟨r,b,o⟩:=i 0 _ rfl
 obtain ⟨k,c0,l,m⟩:=(A4m Tryz.underlying3) o
 obtain ⟨p,c,t⟩:=i 1 _ rfl
 obtain ⟨u,j,q,p1⟩:=(A4m Tryz.underlying3) t
 have e:cs=_:=(List.drop_zero).symm.trans (A0w c0 (A0w j (List.drop_eq_nil_of_le (by omega:cs.length≤2)) okl) okl)
 have f:ys=[r,p]:=by
  match ys,d,b,c with
  | [z0,z1],_,b,c=>simp at b c;simp [b,c]
 rw [f] at g
 exact ⟨⟨k,u⟩,e,⟨_,_,g,l,q⟩,m,p1⟩
def E4g (a:Cur):Prop:=B5s a.row∧B5s a.col
def E4j {H:Type} (d:DataW H) (a:Cur):Prop:=∃ c b e,d=.agg [c,b,e]∧B7n c a.row∧B7n b a.col∧E0k e a.wrap
set_option maxRecDepth 100000 in
theorem E4a:Cod Tryz.prog 23 Cur B8 E4j (fun _ a=>E4g a):=fun {H enc w base sp held fuel cs x} h=>by
 obtain ⟨hl,n,ys,rfl,j,f,g⟩:=B0y Tryz.underlying23 h
 have z:cs.length=3:=hl.trans okl
 obtain ⟨y,b,s⟩:=g 0 _ rfl
 obtain ⟨m,c0,o,q⟩:=(A4m Tryz.underlying3) s
 obtain ⟨t,d,t1⟩:=g 1 _ rfl
 obtain ⟨a1,k,u,p1⟩:=(A4m Tryz.underlying3) t1
 obtain ⟨r,c,l⟩:=g 2 _ rfl
 obtain ⟨a2,v,p,p2⟩:=(D7x Tryz.underlying4) l
 have e:cs=_:=(List.drop_zero).symm.trans (A0w c0 (A0w k (A0w v (List.drop_eq_nil_of_le (by omega:cs.length≤3)) okl) okl) okl)
 have i:ys=[y,t,r]:=by
  match ys,f,b,d,c with
  | [z0,z1,z2],_,b,d,c=>simp at b d c;simp [b,d,c]
 rw [i] at j
 exact ⟨⟨m,a1,a2⟩,e,⟨_,_,_,j,o,u,p⟩,q,p1⟩
end Go.Proofs.YtioaekgoceinkaaGreatDoor
set_option linter.unusedVariables false
namespace Go.Proofs.YtioaekgoceinkaaGreatDoor
open Go Go.Fen Go.RowKit Go.ChangeShapes
def D4h:DataW Unit→Option Atr
 | .agg [.lit (.int .i64 a),.lit (.int .i64 b),.lit (.int .i64 c)]=>some ⟨a,b,c⟩
 | _=>none
theorem D2d (d:DataW Unit) (a:Atr) (h:E1g d a):D4h d=some a:=by
 obtain ⟨g,f,i,rfl,c,b,e⟩:=h
 unfold B7n at c b e
 subst c b e
 rfl
def C8h:DataW Unit→Option Spn
 | .agg [.lit (.int .i64 a),.lit (.int .i64 b)]=>some ⟨a,b⟩
 | _=>none
theorem C4i (d:DataW Unit) (a:Spn) (h:D9u d a):C8h d=some a:=by
 obtain ⟨f,e,rfl,c,b⟩:=h
 unfold B7n at c b
 subst c b
 rfl
def D8e:DataW Unit→Option UInt8
 | .lit (.int .u8 a)=>some (by8 a)
 | _=>none
theorem D5l (d:DataW Unit) (a:UInt8) (h:dU8 d a):D8e d=some a:=by
 unfold dU8 at h
 subst h
 refine congrArg some (UInt8.toNat_inj.1 ?_)
 have b:=UInt8.toNat_lt a
 have:=B6c (n:=(a.toNat:Int)) opx
 omega
end Go.Proofs.YtioaekgoceinkaaGreatDoor
