import Derived.Test.YtfcdnnheppnbaaaGreatDoorRows
import Derived.Test.YtfcdnnheppnbaaaGreatDoorMA2
import Derived.Test.YtfcdnnheppnbaaaGreatDoorMB1
import Derived.Test.YtfcdnnheppnbaaaGreatDoorMQ1
set_option linter.unusedVariables false
set_option linter.unusedSimpArgs false
set_option linter.unnecessarySimpa false
set_option maxRecDepth 100000
namespace Go.Proofs.YtfcdnnheppnbaaaGreatDoor
open Go Go.Fen Go.RowKit Go.ChangeShapes
theorem all_nil {h:Hp}:∀ q ∈ ([]:List Pers),q.p h:=fun _ h=>by cases h
theorem all_cons {h:Hp} {q:Pers} {Φ:List Pers} (d:q.p h) (c:∀ q ∈ Φ,q.p h):∀ b ∈ q::Φ,b.p h:=fun b a=>by
 rcases List.mem_cons.1 a with rfl | a
 ·exact d
 ·exact c b a
def E2b:DataW Unit→Option Int
 | .lit (.int .i64 a)=>some a
 | _=>none
theorem E0m (d:DataW Unit) (a:Int) (h:B6x d a):E2b d=some a:=by
 unfold B6x at h
 subst h
 rfl
def E9r {H:Type} (d:DataW H) (n:Int):Prop:=d=.lit (.int .u64 n)
theorem E9p {P:Program} {T:TypeId} (a:P.underlying T=some (.int .u64)):Cod P T Int F0k E9r (fun _ _=>True):=fun h=>by
 obtain ⟨n,rfl,rfl,b⟩:=DataW.trod_int a h
 exact ⟨n,rfl,rfl,trivial⟩
def E1d:DataW Unit→Option Int
 | .lit (.int .u64 a)=>some a
 | _=>none
theorem E0i (d:DataW Unit) (a:Int) (h:E9r d a):E1d d=some a:=by
 unfold E9r at h
 subst h
 rfl
theorem D9t:Lib.pow10Tab.flatMap F0k=B6p:=by kernel_rfl
def B9i (h:Array Obj) (g:Nat) (cs:List Value):Array Obj:=h.modify g fun
 | .cells _ t fr=>.cells cs.toArray t fr
 | o=>o
mutual
def A6f:DataW Unit→List Value
 | .agg ds=>C4t ds
 | .lit (.int k n)=>[.int k n]
 | .lit (.bool b)=>[.bool b]
 | .lit (.string s)=>[.string ⟨s.toArray⟩]
 | _=>[]
def C4t:List (DataW Unit)→List Value
 | []=>[]
 | d::r=>A6f d++C4t r
end
open Go.RowKit Go.ChangeShapes
def F3l (a:Atr):Prop:=B2x a.a∧B2x a.b∧B2x a.c
def F0q {H:Type} (d:DataW H) (a:Atr):Prop:=∃ g e f,d=.agg [g,e,f]∧B6x g a.a∧B6x e a.b∧B6x f a.c
theorem F1q:Cod Tryz.prog 319 Atr C2v F0q (fun _ a=>F3l a):=fun {H enc w base sp held fuel cs x} h=>by
 obtain ⟨q,n,ys,rfl,j,i,f⟩:=B0j Tryz.underlying319 h
 have p:cs.length=3:=q.trans oki
 obtain ⟨u,b,t0⟩:=f 0 _ rfl
 obtain ⟨m,c0,l,r⟩:=(A2u Tryz.underlying3) t0
 obtain ⟨y1,c,v⟩:=f 1 _ rfl
 obtain ⟨t,c1,o,p1⟩:=(A2u Tryz.underlying3) v
 obtain ⟨y,d,s⟩:=f 2 _ rfl
 obtain ⟨z,c2,k,p2⟩:=(A2u Tryz.underlying3) s
 have e:cs=_:=(List.drop_zero).symm.trans (S0 c0 (S0 c1 (S0 c2 (List.drop_eq_nil_of_le (by omega:cs.length≤3)) oki) oki) oki)
 have g:ys=[u,y1,y]:=by
  match ys,i,b,c,d with
  | [z0,z1,z2],_,b,c,d=>simp at b c d;simp [b,c,d]
 rw [g] at j
 exact ⟨⟨m,t,z⟩,e,⟨_,_,_,j,l,o,k⟩,r,p1,p2⟩
def F2f (a:Spn):Prop:=B2x a.lo∧B2x a.hi
def E8t {H:Type} (d:DataW H) (a:Spn):Prop:=∃ c b,d=.agg [c,b]∧B6x c a.lo∧B6x b a.hi
theorem E5t:Cod Tryz.prog 131 Spn B7 E8t (fun _ a=>F2f a):=fun {H enc w base sp held fuel cs x} h=>by
 obtain ⟨o,n,ys,rfl,i,f,g⟩:=B0j Tryz.underlying131 h
 have m:cs.length=2:=o.trans oki
 obtain ⟨r,b,t⟩:=g 0 _ rfl
 obtain ⟨k,c0,j,p⟩:=(A2u Tryz.underlying3) t
 obtain ⟨u,c,s⟩:=g 1 _ rfl
 obtain ⟨q,c1,l,p1⟩:=(A2u Tryz.underlying3) s
 have e:cs=_:=(List.drop_zero).symm.trans (S0 c0 (S0 c1 (List.drop_eq_nil_of_le (by omega:cs.length≤2)) oki) oki)
 have d:ys=[r,u]:=by
  match ys,f,b,c with
  | [z0,z1],_,b,c=>simp at b c;simp [b,c]
 rw [d] at i
 exact ⟨⟨k,q⟩,e,⟨_,_,i,j,l⟩,p,p1⟩
def E8v (a:Col):Prop:=B2x a.kind∧B2x a.n
def F0a {H:Type} (d:DataW H) (a:Col):Prop:=∃ c b,d=.agg [c,b]∧B6x c a.kind∧B6x b a.n
theorem E7y:Cod Tryz.prog 24 Col P0 F0a (fun _ a=>E8v a):=fun {H enc w base sp held fuel cs x} h=>by
 obtain ⟨o,n,ys,rfl,i,f,g⟩:=B0j Tryz.underlying24 h
 have m:cs.length=2:=o.trans oki
 obtain ⟨r,b,t⟩:=g 0 _ rfl
 obtain ⟨k,c0,j,p⟩:=(A2u Tryz.underlying3) t
 obtain ⟨u,c,s⟩:=g 1 _ rfl
 obtain ⟨q,c1,l,p1⟩:=(A2u Tryz.underlying3) s
 have e:cs=_:=(List.drop_zero).symm.trans (S0 c0 (S0 c1 (List.drop_eq_nil_of_le (by omega:cs.length≤2)) oki) oki)
 have d:ys=[r,u]:=by
  match ys,f,b,c with
  | [z0,z1],_,b,c=>simp at b c;simp [b,c]
 rw [d] at i
 exact ⟨⟨k,q⟩,e,⟨_,_,i,j,l⟩,p,p1⟩
def F4e (a:Sty):Prop:=B2x a.attr∧B2x a.under∧E8v a.fore∧E8v a.back∧E8v a.line
def F3o {H:Type} (d:DataW H) (a:Sty):Prop:=∃ f e b c g,d=.agg [f,e,b,c,g]∧B6x f a.attr∧B6x e a.under∧F0a b a.fore∧F0a c a.back∧F0a g a.line
theorem F0c:Cod Tryz.prog 26 Sty B3 F3o (fun _ a=>F4e a):=fun {H enc w base sp held fuel cs x} h=>by
 obtain ⟨hl,n,ys,rfl,l,k,b⟩:=B0j Tryz.underlying26 h
 have aj:cs.length=8:=hl.trans oki
 obtain ⟨t,c,v⟩:=b 0 _ rfl
 obtain ⟨p,c0,q0,p0⟩:=(A2u Tryz.underlying3) v
 obtain ⟨z,d,t1⟩:=b 1 _ rfl
 obtain ⟨a1,c1,q1,p1⟩:=(A2u Tryz.underlying3) t1
 obtain ⟨u,f,r⟩:=b 2 _ rfl
 obtain ⟨a2,c2,q2,p2⟩:=E7y r
 obtain ⟨y,g,t3⟩:=b 3 _ rfl
 obtain ⟨a3,q,q3,p3⟩:=E7y t3
 obtain ⟨m,i,t4⟩:=b 4 _ rfl
 obtain ⟨a4,s,o,p4⟩:=E7y t4
 have e:cs=_:=(List.drop_zero).symm.trans (S0 c0 (S0 c1 (S0 c2 (S0 q (S0 s (List.drop_eq_nil_of_le (by omega:cs.length≤8)) oki) oki) oki) oki) oki)
 have j:ys=[t,z,u,y,m]:=by
  match ys,k,c,d,f,g,i with
  | [z0,z1,z2,z3,z4],_,c,d,f,g,i=>simp at c d f g i;simp [c,d,f,g,i]
 rw [j] at l
 exact ⟨⟨p,a1,a2,a3,a4⟩,e,⟨_,_,_,_,_,l,q0,q1,q2,q3,o⟩,p0,p1,p2,p3,p4⟩
def F4g (a:Ar2):Prop:=B2x a.a∧B2x a.b
def F4b {H:Type} (d:DataW H) (a:Ar2):Prop:=∃ e c,d=.agg [e,c]∧B6x e a.a∧B6x c a.b
theorem F4h:Cod Tryz.prog 35 Ar2 B6n F4b (fun _ a=>F4g a):=fun {H enc w base sp held fuel cs x} h=>by
 obtain ⟨o,n,ys,rfl,i,f,g⟩:=C8n Tryz.underlying35 h
 have m:cs.length=2:=o.trans oki
 obtain ⟨r,b,t⟩:=g 0 ozw
 obtain ⟨k,c0,j,p⟩:=(A2u Tryz.underlying3) t
 obtain ⟨u,c,s⟩:=g 1 ozw
 obtain ⟨q,c1,l,p1⟩:=(A2u Tryz.underlying3) s
 have e:cs=_:=(List.drop_zero).symm.trans (S0 c0 (S0 c1 (List.drop_eq_nil_of_le (by omega:cs.length≤2)) oki) oki)
 have d:ys=[r,u]:=by
  match ys,f,b,c with
  | [z0,z1],_,b,c=>simp at b c;simp [b,c]
 rw [d] at i
 exact ⟨⟨k,q⟩,e,⟨_,_,i,j,l⟩,p,p1⟩
def F0w (a:Cel):Prop:=B2x a.base∧F4g a.marks∧B2x a.wide∧F4e a.sty
def F2x {H:Type} (d:DataW H) (a:Cel):Prop:=∃ e b c f,d=.agg [e,b,c,f]∧B6x e a.base∧F4b b a.marks∧B6x c a.wide∧F3o f a.sty
theorem F0e:Cod Tryz.prog 37 Cel C0 F2x (fun _ a=>F0w a):=fun {H enc w base sp held fuel cs x} h=>by
 obtain ⟨hl,n,ys,rfl,k,j,f⟩:=B0j Tryz.underlying37 h
 have ab:cs.length=12:=hl.trans oki
 obtain ⟨p,b,r⟩:=f 0 _ rfl
 obtain ⟨l,c0,y,p0⟩:=(A2u Tryz.underlying3) r
 obtain ⟨t,c,t1⟩:=f 1 _ rfl
 obtain ⟨a1,c1,z,p1⟩:=F4h t1
 obtain ⟨q,d,o⟩:=f 2 _ rfl
 obtain ⟨a2,c2,u,p2⟩:=(A2u Tryz.underlying3) o
 obtain ⟨s,g,v⟩:=f 3 _ rfl
 obtain ⟨a3,m,q3,p3⟩:=F0c v
 have e:cs=_:=(List.drop_zero).symm.trans (S0 c0 (S0 c1 (S0 c2 (S0 m (List.drop_eq_nil_of_le (by omega:cs.length≤12)) oki) oki) oki) oki)
 have i:ys=[p,t,q,s]:=by
  match ys,j,b,c,d,g with
  | [z0,z1,z2,z3],_,b,c,d,g=>simp at b c d g;simp [b,c,d,g]
 rw [i] at k
 exact ⟨⟨l,a1,a2,a3⟩,e,⟨_,_,_,_,k,y,z,u,q3⟩,p0,p1,p2,p3⟩
end Go.Proofs.YtfcdnnheppnbaaaGreatDoor
namespace Go.Proofs.YtfcdnnheppnbaaaGreatDoor
open Go Go.Fen Go.RowKit Go.ChangeShapes
def E2v:DataW Unit→Option Atr
 | .agg [.lit (.int .i64 a),.lit (.int .i64 b),.lit (.int .i64 c)]=>some ⟨a,b,c⟩
 | _=>none
theorem E0w (d:DataW Unit) (a:Atr) (h:F0q d a):E2v d=some a:=by
 obtain ⟨i,g,f,rfl,c,b,e⟩:=h
 unfold B6x at c b e
 subst c b e
 rfl
def D5p:DataW Unit→Option Spn
 | .agg [.lit (.int .i64 a),.lit (.int .i64 b)]=>some ⟨a,b⟩
 | _=>none
theorem C9g (d:DataW Unit) (a:Spn) (h:E8t d a):D5p d=some a:=by
 obtain ⟨f,e,rfl,c,b⟩:=h
 unfold B6x at c b
 subst c b
 rfl
def E5r:DataW Unit→Option UInt8
 | .lit (.int .u8 a)=>some (by8 a)
 | _=>none
theorem E3n (d:DataW Unit) (a:UInt8) (h:dU8 d a):E5r d=some a:=by
 unfold dU8 at h
 subst h
 refine congrArg some (UInt8.toNat_inj.1 ?_)
 have b:=UInt8.toNat_lt a
 have:=C0k (n:=(a.toNat:Int)) opx
 omega
end Go.Proofs.YtfcdnnheppnbaaaGreatDoor
