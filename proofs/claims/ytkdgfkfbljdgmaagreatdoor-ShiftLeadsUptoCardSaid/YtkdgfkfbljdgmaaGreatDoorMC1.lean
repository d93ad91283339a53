import Derived.Test.YtkdgfkfbljdgmaaGreatDoorRows
import Derived.Test.YtkdgfkfbljdgmaaGreatDoorMA2
import Derived.Test.YtkdgfkfbljdgmaaGreatDoorMB1
set_option linter.unusedVariables false
set_option linter.unusedSimpArgs false
set_option linter.unnecessarySimpa false
namespace Go.Proofs.YtkdgfkfbljdgmaaGreatDoor
open Go Go.Fen
open Go.RowKit Go.ChangeShapes
def D1m (a:Spn):Prop:=A2n a.lo∧A2n a.hi
def C8t {H:Type} (d:DataW H) (a:Spn):Prop:=∃ c b,d=.agg [c,b]∧A9b c a.lo∧A9b b a.hi
set_option maxRecDepth 100000 in
theorem C7b:Cod Tryz.prog 146 Spn B6 C8t (fun _ a=>D1m a):=fun {H enc w base sp held fuel cs x} h=>by
 obtain ⟨v,n,ys,rfl,i,f,g⟩:=Z7 Tryz.underlying146 h
 have s:cs.length=2:=v.trans oki
 obtain ⟨t,c,j⟩:=g 0 _ rfl
 obtain ⟨y,m,k,r⟩:=(U9 Tryz.underlying3) j
 obtain ⟨u,b,l⟩:=g 1 _ rfl
 obtain ⟨o,q,p,p1⟩:=(U9 Tryz.underlying3) l
 have e:cs=_:=(List.drop_zero).symm.trans (G7 m (G7 q (List.drop_eq_nil_of_le (by omega:cs.length≤2)) oki) oki)
 have d:ys=[t,u]:=by
  match ys,f,c,b with
  | [z0,z1],_,c,b=>simp at c b;simp [c,b]
 rw [d] at i
 exact ⟨⟨y,o⟩,e,⟨_,_,i,k,p⟩,r,p1⟩
def D3b (a:Ar2):Prop:=A2n a.a∧A2n a.b
def D2h {H:Type} (d:DataW H) (a:Ar2):Prop:=∃ e c,d=.agg [e,c]∧A9b e a.a∧A9b c a.b
set_option maxRecDepth 100000 in
theorem D1p:Cod Tryz.prog 104 Ar2 B5c D2h (fun _ a=>D3b a):=fun {H enc w base sp held fuel cs x} h=>by
 obtain ⟨v,n,ys,rfl,i,f,g⟩:=B5t Tryz.underlying104 h
 have s:cs.length=2:=v.trans oki
 obtain ⟨t,c,j⟩:=g 0 ozw
 obtain ⟨y,m,k,r⟩:=(U9 Tryz.underlying3) j
 obtain ⟨u,b,l⟩:=g 1 ozw
 obtain ⟨o,q,p,p1⟩:=(U9 Tryz.underlying3) l
 have e:cs=_:=(List.drop_zero).symm.trans (G7 m (G7 q (List.drop_eq_nil_of_le (by omega:cs.length≤2)) oki) oki)
 have d:ys=[t,u]:=by
  match ys,f,c,b with
  | [z0,z1],_,c,b=>simp at c b;simp [c,b]
 rw [d] at i
 exact ⟨⟨y,o⟩,e,⟨_,_,i,k,p⟩,r,p1⟩
def C8o (a:Col):Prop:=A2n a.kind∧A2n a.n
def C9r {H:Type} (d:DataW H) (a:Col):Prop:=∃ c b,d=.agg [c,b]∧A9b c a.kind∧A9b b a.n
set_option maxRecDepth 100000 in
theorem C8l:Cod Tryz.prog 40 Col S2 C9r (fun _ a=>C8o a):=fun {H enc w base sp held fuel cs x} h=>by
 obtain ⟨v,n,ys,rfl,i,f,g⟩:=Z7 Tryz.underlying40 h
 have s:cs.length=2:=v.trans oki
 obtain ⟨t,c,j⟩:=g 0 _ rfl
 obtain ⟨y,m,k,r⟩:=(U9 Tryz.underlying3) j
 obtain ⟨u,b,l⟩:=g 1 _ rfl
 obtain ⟨o,q,p,p1⟩:=(U9 Tryz.underlying3) l
 have e:cs=_:=(List.drop_zero).symm.trans (G7 m (G7 q (List.drop_eq_nil_of_le (by omega:cs.length≤2)) oki) oki)
 have d:ys=[t,u]:=by
  match ys,f,c,b with
  | [z0,z1],_,c,b=>simp at c b;simp [c,b]
 rw [d] at i
 exact ⟨⟨y,o⟩,e,⟨_,_,i,k,p⟩,r,p1⟩
def D3i (a:Sty):Prop:=A2n a.attr∧A2n a.under∧C8o a.fore∧C8o a.back∧C8o a.line
def D2q {H:Type} (d:DataW H) (a:Sty):Prop:=∃ g f b e c,d=.agg [g,f,b,e,c]∧A9b g a.attr∧A9b f a.under∧C9r b a.fore∧C9r e a.back∧C9r c a.line
set_option maxRecDepth 100000 in
theorem D3j:Cod Tryz.prog 42 Sty C7 D2q (fun _ a=>D3i a):=fun {H enc w base sp held fuel cs x} h=>by
 obtain ⟨hl,n,ys,rfl,l,j,b⟩:=Z7 Tryz.underlying42 h
 have a6:cs.length=8:=hl.trans oki
 obtain ⟨y0,d,m⟩:=b 0 _ rfl
 obtain ⟨a0,c0,o,z⟩:=(U9 Tryz.underlying3) m
 obtain ⟨y1,g,t1⟩:=b 1 _ rfl
 obtain ⟨a1,u,t,p1⟩:=(U9 Tryz.underlying3) t1
 obtain ⟨s,f,y⟩:=b 2 _ rfl
 obtain ⟨a2,c2,q2,p2⟩:=C8l y
 obtain ⟨y3,c,t3⟩:=b 3 _ rfl
 obtain ⟨a3,c3,p,q⟩:=C8l t3
 obtain ⟨y4,i,t4⟩:=b 4 _ rfl
 obtain ⟨r,v,q4,p4⟩:=C8l t4
 have e:cs=_:=(List.drop_zero).symm.trans (G7 c0 (G7 u (G7 c2 (G7 c3 (G7 v (List.drop_eq_nil_of_le (by omega:cs.length≤8)) oki) oki) oki) oki) oki)
 have k:ys=[y0,y1,s,y3,y4]:=by
  match ys,j,d,g,f,c,i with
  | [z0,z1,z2,z3,z4],_,d,g,f,c,i=>simp at d g f c i;simp [d,g,f,c,i]
 rw [k] at l
 exact ⟨⟨a0,a1,a2,a3,r⟩,e,⟨_,_,_,_,_,l,o,t,q2,p,q4⟩,z,p1,p2,q,p4⟩
def D0w (a:Cel):Prop:=A2n a.base∧D3b a.marks∧A2n a.wide∧D3i a.sty
def D2x {H:Type} (d:DataW H) (a:Cel):Prop:=∃ e c f b,d=.agg [e,c,f,b]∧A9b e a.base∧D2h c a.marks∧A9b f a.wide∧D2q b a.sty
set_option maxRecDepth 100000 in
theorem D1t:Cod Tryz.prog 106 Cel B1 D2x (fun _ a=>D0w a):=fun {H enc w base sp held fuel cs x} h=>by
 obtain ⟨hl,n,ys,rfl,k,i,c⟩:=Z7 Tryz.underlying106 h
 have y:cs.length=12:=hl.trans oki
 obtain ⟨z,d,l⟩:=c 0 _ rfl
 obtain ⟨a0,c0,m,u⟩:=(U9 Tryz.underlying3) l
 obtain ⟨y1,g,t1⟩:=c 1 _ rfl
 obtain ⟨a1,s,r,p1⟩:=D1p t1
 obtain ⟨q,f,t⟩:=c 2 _ rfl
 obtain ⟨a2,c2,q2,p2⟩:=(U9 Tryz.underlying3) t
 obtain ⟨v,b,t3⟩:=c 3 _ rfl
 obtain ⟨a3,c3,o,p⟩:=D3j t3
 have e:cs=_:=(List.drop_zero).symm.trans (G7 c0 (G7 s (G7 c2 (G7 c3 (List.drop_eq_nil_of_le (by omega:cs.length≤12)) oki) oki) oki) oki)
 have j:ys=[z,y1,q,v]:=by
  match ys,i,d,g,f,b with
  | [z0,z1,z2,z3],_,d,g,f,b=>simp at d g f b;simp [d,g,f,b]
 rw [j] at k
 exact ⟨⟨a0,a1,a2,a3⟩,e,⟨_,_,_,_,k,m,r,q2,o⟩,u,p1,p2,p⟩
def D2u (a:Plc):Prop:=A2n a.row∧A2n a.col
def D4i {H:Type} (d:DataW H) (a:Plc):Prop:=∃ c b,d=.agg [c,b]∧A9b c a.row∧A9b b a.col
set_option maxRecDepth 100000 in
theorem D3l:Cod Tryz.prog 24 Plc B3e D4i (fun _ a=>D2u a):=fun {H enc w base sp held fuel cs x} h=>by
 obtain ⟨v,n,ys,rfl,i,f,g⟩:=Z7 Tryz.underlying24 h
 have s:cs.length=2:=v.trans oki
 obtain ⟨t,c,j⟩:=g 0 _ rfl
 obtain ⟨y,m,k,r⟩:=(U9 Tryz.underlying3) j
 obtain ⟨u,b,l⟩:=g 1 _ rfl
 obtain ⟨o,q,p,p1⟩:=(U9 Tryz.underlying3) l
 have e:cs=_:=(List.drop_zero).symm.trans (G7 m (G7 q (List.drop_eq_nil_of_le (by omega:cs.length≤2)) oki) oki)
 have d:ys=[t,u]:=by
  match ys,f,c,b with
  | [z0,z1],_,c,b=>simp at c b;simp [c,b]
 rw [d] at i
 exact ⟨⟨y,o⟩,e,⟨_,_,i,k,p⟩,r,p1⟩
set_option maxRecDepth 100000 in
theorem D0z {H:Type} {enc:TypeId×Value→H} {w:World} {o:Nat} {sp:Nat→Bool} {s:Bool} {v:Nat} {cs:List Value} {x:DataW H×List MemPlace} (h:DataW.trod enc Tryz.prog w o sp s v 26 cs=some x) :
  ∃ (l:Int) (k:Option Addr) (g:Nat) (b:List Slc) (f:List (List Cel)) (e:Plc) (i:Bool) (j:Int) (d:List UInt8),cs=(X3 l++([.slice k f.length g]++(B3e e++(H4 i++(X3 j++(D1r d++[]))))))∧(A2n l)∧(f.length≤g)∧(g≤9223372036854775807)∧(E3 b f)∧((sl E4 k b).p (B3u w))∧((D3 B1 b f).p (B3u w))∧(∀ xs ∈ f,∀ a ∈ xs,D0w a)∧(D2u e)∧(A2n j)∧(d.length≤9223372036854775807)∧(∃ ds,x.1=.agg ds∧DataW.lit (.string d) ∈ ds):=by
 obtain ⟨hl,n,ys,rfl,hx,ab,m⟩:=Z7 Tryz.underlying26 h
 have a7:cs.length=7:=hl.trans oki
 obtain ⟨y0,e0,t0⟩:=m 0 _ rfl
 obtain ⟨l,c0,q0,p0⟩:=(U9 Tryz.underlying3) t0
 obtain ⟨y1,e1,t1⟩:=m 1 _ rfl
 obtain ⟨k,g,b,f,c1,q,y,r,z,t,u⟩:=C6t (c:=B1) (D:=D2x) (p:=fun _ a=>D0w a) D1t (sz:=12) (fun _=>rfl) oki ozw Tryz.underlying65 oki Tryz.underlying22 t1
 obtain ⟨y2,e2,t2⟩:=m 2 _ rfl
 obtain ⟨e,c2,q2,p2⟩:=D3l t2
 obtain ⟨y3,e3,t3⟩:=m 3 _ rfl
 obtain ⟨i,c3,q3,p3⟩:=(C7f Tryz.underlying4) t3
 obtain ⟨y4,e4,t4⟩:=m 4 _ rfl
 obtain ⟨j,c4,q4,p4⟩:=(U9 Tryz.underlying3) t4
 obtain ⟨y5,e5,t5⟩:=m 5 _ rfl
 obtain ⟨d,c5,q5,p5⟩:=(C8r Tryz.underlying9) t5
 exact ⟨l,k,g,b,f,e,i,j,d,(List.drop_zero).symm.trans (G7 c0 (G7 c1 (G7 c2 (G7 c3 (G7 c4 (G7 c5 (List.drop_eq_nil_of_le (by omega:cs.length≤7)) oki) oki) oki) oki) oki) oki),p0,q,y,r,z,t,u,p2,p4,p5,⟨_,hx,by rw [← show y5.1=DataW.lit (.string d) from q5];exact List.mem_map_of_mem (List.mem_of_getElem? e5)⟩⟩
def D4j (a:Shf):Prop:=A2n a.top∧A2n a.bottom∧A2n a.amt
def D4f {H:Type} (d:DataW H) (a:Shf):Prop:=∃ c b e,d=.agg [c,b,e]∧A9b c a.top∧A9b b a.bottom∧A9b e a.amt
set_option maxRecDepth 100000 in
theorem D2t:Cod Tryz.prog 28 Shf B2 D4f (fun _ a=>D4j a):=fun {H enc w base sp held fuel cs x} h=>by
 obtain ⟨hl,n,ys,rfl,j,i,g⟩:=Z7 Tryz.underlying28 h
 have a3:cs.length=3:=hl.trans oki
 obtain ⟨y0,d,k⟩:=g 0 _ rfl
 obtain ⟨a0,s,l,z⟩:=(U9 Tryz.underlying3) k
 obtain ⟨y1,c,m⟩:=g 1 _ rfl
 obtain ⟨t,v,u,p1⟩:=(U9 Tryz.underlying3) m
 obtain ⟨q,b,y⟩:=g 2 _ rfl
 obtain ⟨r,p,o,p2⟩:=(U9 Tryz.underlying3) y
 have e:cs=_:=(List.drop_zero).symm.trans (G7 s (G7 v (G7 p (List.drop_eq_nil_of_le (by omega:cs.length≤3)) oki) oki) oki)
 have f:ys=[y0,y1,q]:=by
  match ys,i,d,c,b with
  | [z0,z1,z2],_,d,c,b=>simp at d c b;simp [d,c,b]
 rw [f] at j
 exact ⟨⟨a0,t,r⟩,e,⟨_,_,_,j,l,u,o⟩,z,p1,p2⟩
end Go.Proofs.YtkdgfkfbljdgmaaGreatDoor
set_option linter.unusedVariables false
set_option linter.unusedSimpArgs false
namespace Go.Proofs.YtkdgfkfbljdgmaaGreatDoor
open Go Go.Fen Go.RowKit Go.ChangeShapes
namespace bulks
theorem C8u {H:Type} {d:DataW H} {l:List (DataW H)} (h:d ∈ l):Rows.uptoBulk d≤Rows.uptoBulkAll l:=by
 induction l with
 | nil=>cases h
 | cons x r ih =>
  simp only [Rows.uptoBulkAll]
  cases List.mem_cons.1 h with
  | inl e=>subst e;omega
  | inr e=>have:=ih e;omega
theorem bound {H:Type} {l:List (DataW H)} (a:Rows.uptoSmall H l=true):Rows.uptoBulkAll l≤1048576:=by
 simpa [Rows.uptoSmall] using a
theorem str_in {H:Type} {d:DataW H} {s:List UInt8} (h:∃ ds,d=.agg ds∧DataW.lit (.string s) ∈ ds):s.length+2≤Rows.uptoBulk d:=by
 obtain ⟨ds,rfl,a⟩:=h
 have:=C8u a
 simp only [Rows.uptoBulk] at this ⊢
 omega
end bulks
theorem C8y {h:Hp}:∀ q ∈ ([]:List Pers),q.p h:=fun _ h=>by cases h
theorem all_cons {h:Hp} {q:Pers} {Φ:List Pers} (d:q.p h) (c:∀ q ∈ Φ,q.p h):∀ a ∈ q::Φ,a.p h:=fun a b=>by
 rcases List.mem_cons.1 b with rfl | b
 ·exact d
 ·exact c a b
def B9s:DataW Unit→Option Spn
 | .agg [.lit (.int .i64 a),.lit (.int .i64 b)]=>some ⟨a,b⟩
 | _=>none
theorem B6v (d:DataW Unit) (a:Spn) (h:C8t d a):B9s d=some a:=by
 obtain ⟨f,e,rfl,c,b⟩:=h
 unfold A9b at c b
 subst c b
 rfl
def B0x (h:Array Obj) (g:Nat) (cs:List Value):Array Obj:=h.modify g fun
 | .cells _ t fr=>.cells cs.toArray t fr
 | o=>o
mutual
def A1q:DataW Unit→List Value
 | .agg ds=>B2q ds
 | .lit (.int k n)=>[.int k n]
 | .lit (.bool b)=>[.bool b]
 | .lit (.string s)=>[.string ⟨s.toArray⟩]
 | _=>[]
def B2q:List (DataW Unit)→List Value
 | []=>[]
 | d::r=>A1q d++B2q r
end
end Go.Proofs.YtkdgfkfbljdgmaaGreatDoor
