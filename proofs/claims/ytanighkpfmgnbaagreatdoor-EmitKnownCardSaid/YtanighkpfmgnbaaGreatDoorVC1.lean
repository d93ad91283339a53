import Derived.Test.YtanighkpfmgnbaaGreatDoorRows
import Derived.Test.YtanighkpfmgnbaaGreatDoorVA2
import Derived.Test.YtanighkpfmgnbaaGreatDoorVB1
set_option linter.unusedVariables false
namespace Go.Proofs.YtanighkpfmgnbaaGreatDoor
open Go Go.Fen Go.RowKit Go.ChangeShapes
theorem all_nil {h:Hp}:∀ q ∈ ([]:List Pers),q.p h:=fun _ h=>by cases h
theorem all_cons {h:Hp} {q:Pers} {Φ:List Pers} (h1:q.p h) (h2:∀ q ∈ Φ,q.p h):∀ q' ∈ q::Φ,q'.p h:=fun q' hq=>by
 rcases List.mem_cons.1 hq with rfl | hq
 ·exact h1
 ·exact h2 q' hq
def C8f:DataW Unit→Option Int
 | .lit (.int .i64 a)=>some a
 | _=>none
theorem C6f (d:DataW Unit) (a:Int) (h:B9k d a):C8f d=some a:=by
 unfold B9k at h
 subst h
 rfl
def D5e {H:Type} (d:DataW H) (n:Int):Prop:=d=.lit (.int .u64 n)
theorem D3r {P:Program} {T:TypeId} (ht:P.underlying T=some (.int .u64)):Cod P T Int D6m D5e (fun _ _=>True):=fun h=>by
 obtain ⟨n,rfl,rfl,hw⟩:=DataW.trod_int ht h
 exact ⟨n,rfl,rfl,trivial⟩
def C8p:DataW Unit→Option Int
 | .lit (.int .u64 a)=>some a
 | _=>none
theorem C7b (d:DataW Unit) (a:Int) (h:D5e d a):C8p d=some a:=by
 unfold D5e at h
 subst h
 rfl
theorem C7t:Lib.pow10Tab.flatMap D6m=A9i:=by kernel_rfl
def B3b (h:Array Obj) (g:Nat) (cs:List Value):Array Obj:=h.modify g fun
 | .cells _ t fr=>.cells cs.toArray t fr
 | o=>o
mutual
def A2s:DataW Unit→List Value
 | .agg ds=>B4t ds
 | .lit (.int k n)=>[.int k n]
 | .lit (.bool b)=>[.bool b]
 | .lit (.string s)=>[.string ⟨s.toArray⟩]
 | _=>[]
def B4t:List (DataW Unit)→List Value
 | []=>[]
 | d::r=>A2s d++B4t r
end
end Go.Proofs.YtanighkpfmgnbaaGreatDoor
set_option linter.unusedVariables false
set_option linter.unusedSimpArgs false
set_option linter.unnecessarySimpa false
namespace Go.Proofs.YtanighkpfmgnbaaGreatDoor
open Go Go.Fen
open Go.RowKit Go.ChangeShapes
def D8u (a:Atr):Prop:=B8x a.a∧B8x a.b∧B8x a.c
def D8p {H:Type} (d:DataW H) (a:Atr):Prop:=∃ d0 d1 d2,d=.agg [d0,d1,d2]∧B9k d0 a.a∧B9k d1 a.b∧B9k d2 a.c
set_option maxRecDepth 100000 in
theorem D6g:Cod Tryz.prog 243 Atr G8 D8p (fun _ a=>D8u a):=fun {H enc w base sp held fuel cs x} h=>by
 obtain ⟨hl,n,ys,rfl,hx,hyl,hf⟩:=B5w Tryz.underlying243 h
 have hl':cs.length=3:=hl.trans (by kernel_rfl)
 obtain ⟨y0,e0,t0⟩:=hf 0 _ rfl
 obtain ⟨a0,c0,q0,p0⟩:=(B1r Tryz.underlying3) t0
 obtain ⟨y1,e1,t1⟩:=hf 1 _ rfl
 obtain ⟨a1,c1,q1,p1⟩:=(B1r Tryz.underlying3) t1
 obtain ⟨y2,e2,t2⟩:=hf 2 _ rfl
 obtain ⟨a2,c2,q2,p2⟩:=(B1r Tryz.underlying3) t2
 have e:cs=_:=(List.drop_zero).symm.trans (A6m c0 (A6m c1 (A6m c2 (List.drop_eq_nil_of_le (by omega:cs.length≤3)) (by kernel_rfl)) (by kernel_rfl)) (by kernel_rfl))
 have hys:ys=[y0,y1,y2]:=by
  match ys,hyl,e0,e1,e2 with
  | [z0,z1,z2],_,e0,e1,e2=>simp at e0 e1 e2;simp [e0,e1,e2]
 rw [hys] at hx
 exact ⟨⟨a0,a1,a2⟩,e,⟨_,_,_,hx,q0,q1,q2⟩,p0,p1,p2⟩
def D8h (a:Spn):Prop:=B8x a.lo∧B8x a.hi
def D4w {H:Type} (d:DataW H) (a:Spn):Prop:=∃ d0 d1,d=.agg [d0,d1]∧B9k d0 a.lo∧B9k d1 a.hi
set_option maxRecDepth 100000 in
theorem D1c:Cod Tryz.prog 184 Spn A6 D4w (fun _ a=>D8h a):=fun {H enc w base sp held fuel cs x} h=>by
 obtain ⟨hl,n,ys,rfl,hx,hyl,hf⟩:=B5w Tryz.underlying184 h
 have hl':cs.length=2:=hl.trans (by kernel_rfl)
 obtain ⟨y0,e0,t0⟩:=hf 0 _ rfl
 obtain ⟨a0,c0,q0,p0⟩:=(B1r Tryz.underlying3) t0
 obtain ⟨y1,e1,t1⟩:=hf 1 _ rfl
 obtain ⟨a1,c1,q1,p1⟩:=(B1r Tryz.underlying3) t1
 have e:cs=_:=(List.drop_zero).symm.trans (A6m c0 (A6m c1 (List.drop_eq_nil_of_le (by omega:cs.length≤2)) (by kernel_rfl)) (by kernel_rfl))
 have hys:ys=[y0,y1]:=by
  match ys,hyl,e0,e1 with
  | [z0,z1],_,e0,e1=>simp at e0 e1;simp [e0,e1]
 rw [hys] at hx
 exact ⟨⟨a0,a1⟩,e,⟨_,_,hx,q0,q1⟩,p0,p1⟩
end Go.Proofs.YtanighkpfmgnbaaGreatDoor
set_option linter.unusedVariables false
namespace Go.Proofs.YtanighkpfmgnbaaGreatDoor
open Go Go.Fen Go.RowKit Go.ChangeShapes
def C8e:DataW Unit→Option Atr
 | .agg [.lit (.int .i64 a),.lit (.int .i64 b),.lit (.int .i64 c)]=>some ⟨a,b,c⟩
 | _=>none
theorem C5y (d:DataW Unit) (a:Atr) (h:D8p d a):C8e d=some a:=by
 obtain ⟨d0,d1,d2,rfl,h0,h1,h2⟩:=h
 unfold B9k at h0 h1 h2
 subst h0 h1 h2
 rfl
def C3b:DataW Unit→Option Spn
 | .agg [.lit (.int .i64 a),.lit (.int .i64 b)]=>some ⟨a,b⟩
 | _=>none
theorem B9h (d:DataW Unit) (a:Spn) (h:D4w d a):C3b d=some a:=by
 obtain ⟨d0,d1,rfl,h0,h1⟩:=h
 unfold B9k at h0 h1
 subst h0 h1
 rfl
def D2h:DataW Unit→Option UInt8
 | .lit (.int .u8 a)=>some (by8 a)
 | _=>none
theorem D0a (d:DataW Unit) (a:UInt8) (h:dU8 d a):D2h d=some a:=by
 unfold dU8 at h
 subst h
 refine congrArg some (UInt8.toNat_inj.1 ?_)
 have h1:=UInt8.toNat_lt a
 have:=A8o (n:=(a.toNat:Int)) (by omega)
 omega
end Go.Proofs.YtanighkpfmgnbaaGreatDoor
