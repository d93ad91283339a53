import Derived.Test.YtgimbmncdmnklaaGreatDoorRows
import Derived.Test.YtgimbmncdmnklaaGreatDoorMA2
import Derived.Test.YtgimbmncdmnklaaGreatDoorMB1
import Derived.Test.YtgimbmncdmnklaaGreatDoorMQ1
set_option linter.unusedVariables false
set_option linter.unusedSimpArgs false
set_option linter.unnecessarySimpa false
set_option maxRecDepth 100000
namespace Go.Proofs.YtgimbmncdmnklaaGreatDoor
open Go Go.Fen Go.RowKit Go.ChangeShapes
theorem all_nil {h:Hp}:∀ q ∈ ([]:List Pers),q.p h:=fun _ h=>by cases h
theorem all_cons {h:Hp} {q:Pers} {Φ:List Pers} (c:q.p h) (d:∀ q ∈ Φ,q.p h):∀ a ∈ q::Φ,a.p h:=fun a b=>by
 rcases List.mem_cons.1 b with rfl | b
 ·exact c
 ·exact d a b
def F0n {H:Type} (d:DataW H) (n:Int):Prop:=d=.lit (.int .u64 n)
theorem E9b {P:Program} {T:TypeId} (a:P.underlying T=some (.int .u64)):Cod P T Int F2x F0n (fun _ _=>True):=fun h=>by
 obtain ⟨n,rfl,rfl,b⟩:=DataW.trod_int a h
 exact ⟨n,rfl,rfl,trivial⟩
def E2r:DataW Unit→Option Int
 | .lit (.int .u64 a)=>some a
 | _=>none
theorem E0l (d:DataW Unit) (a:Int) (h:F0n d a):E2r d=some a:=by
 unfold F0n at h
 subst h
 rfl
theorem E0t:Lib.pow10Tab.flatMap F2x=B8d:=by kernel_rfl
def C2b (h:Array Obj) (g:Nat) (cs:List Value):Array Obj:=h.modify g fun
 | .cells _ t fr=>.cells cs.toArray t fr
 | o=>o
mutual
def A8q:DataW Unit→List Value
 | .agg ds=>C3m ds
 | .lit (.int k n)=>[.int k n]
 | .lit (.bool b)=>[.bool b]
 | .lit (.string s)=>[.string ⟨s.toArray⟩]
 | _=>[]
def C3m:List (DataW Unit)→List Value
 | []=>[]
 | d::r=>A8q d++C3m r
end
open Go.RowKit Go.ChangeShapes
def F4o (a:Atr):Prop:=A9c a.a∧A9c a.b∧A9c a.c
def F3o {H:Type} (d:DataW H) (a:Atr):Prop:=∃ f e g,d=.agg [f,e,g]∧B6p f a.a∧B6p e a.b∧B6p g a.c
theorem F2d:Cod Tryz.prog 325 Atr C2g F3o (fun _ a=>F4o a):=fun {H enc w base sp held fuel cs x} h=>by
 obtain ⟨m,n,ys,rfl,j,g,f⟩:=A4v Tryz.underlying325 h
 have q:cs.length=3:=m.trans oki
 obtain ⟨s,b,t0⟩:=f 0 _ rfl
 obtain ⟨t,c0,l,u⟩:=(A1t Tryz.underlying3) t0
 obtain ⟨r,c,o⟩:=f 1 _ rfl
 obtain ⟨v,c1,z,k⟩:=(A1t Tryz.underlying3) o
 obtain ⟨y2,d,p⟩:=f 2 _ rfl
 obtain ⟨y,c2,q2,p2⟩:=(A1t Tryz.underlying3) p
 have e:cs=_:=(List.drop_zero).symm.trans (J6 c0 (J6 c1 (J6 c2 (List.drop_eq_nil_of_le (by omega:cs.length≤3)) oki) oki) oki)
 have i:ys=[s,r,y2]:=by
  match ys,g,b,c,d with
  | [z0,z1,z2],_,b,c,d=>simp at b c d;simp [b,c,d]
 rw [i] at j
 exact ⟨⟨t,v,y⟩,e,⟨_,_,_,j,l,z,q2⟩,u,k,p2⟩
def F3p (a:Spn):Prop:=A9c a.lo∧A9c a.hi
def E9s {H:Type} (d:DataW H) (a:Spn):Prop:=∃ c b,d=.agg [c,b]∧B6p c a.lo∧B6p b a.hi
theorem E5l:Cod Tryz.prog 208 Spn C0 E9s (fun _ a=>F3p a):=fun {H enc w base sp held fuel cs x} h=>by
 obtain ⟨l,n,ys,rfl,i,d,g⟩:=A4v Tryz.underlying208 h
 have o:cs.length=2:=l.trans oki
 obtain ⟨q,b,v⟩:=g 0 _ rfl
 obtain ⟨r,c0,k,s⟩:=(A1t Tryz.underlying3) v
 obtain ⟨p,c,m⟩:=g 1 _ rfl
 obtain ⟨t,c1,u,j⟩:=(A1t Tryz.underlying3) m
 have e:cs=_:=(List.drop_zero).symm.trans (J6 c0 (J6 c1 (List.drop_eq_nil_of_le (by omega:cs.length≤2)) oki) oki)
 have f:ys=[q,p]:=by
  match ys,d,b,c with
  | [z0,z1],_,b,c=>simp at b c;simp [b,c]
 rw [f] at i
 exact ⟨⟨r,t⟩,e,⟨_,_,i,k,u⟩,s,j⟩
def E9o (a:Col):Prop:=A9c a.kind∧A9c a.n
def E9l {H:Type} (d:DataW H) (a:Col):Prop:=∃ c b,d=.agg [c,b]∧B6p c a.kind∧B6p b a.n
theorem E8v:Cod Tryz.prog 52 Col U2 E9l (fun _ a=>E9o a):=fun {H enc w base sp held fuel cs x} h=>by
 obtain ⟨l,n,ys,rfl,i,d,g⟩:=A4v Tryz.underlying52 h
 have o:cs.length=2:=l.trans oki
 obtain ⟨q,b,v⟩:=g 0 _ rfl
 obtain ⟨r,c0,k,s⟩:=(A1t Tryz.underlying3) v
 obtain ⟨p,c,m⟩:=g 1 _ rfl
 obtain ⟨t,c1,u,j⟩:=(A1t Tryz.underlying3) m
 have e:cs=_:=(List.drop_zero).symm.trans (J6 c0 (J6 c1 (List.drop_eq_nil_of_le (by omega:cs.length≤2)) oki) oki)
 have f:ys=[q,p]:=by
  match ys,d,b,c with
  | [z0,z1],_,b,c=>simp at b c;simp [b,c]
 rw [f] at i
 exact ⟨⟨r,t⟩,e,⟨_,_,i,k,u⟩,s,j⟩
def F4y (a:Sty):Prop:=A9c a.attr∧A9c a.under∧E9o a.fore∧E9o a.back∧E9o a.line
def F5c {H:Type} (d:DataW H) (a:Sty):Prop:=∃ b g f e c,d=.agg [b,g,f,e,c]∧B6p b a.attr∧B6p g a.under∧E9l f a.fore∧E9l e a.back∧E9l c a.line
theorem F4f:Cod Tryz.prog 65 Sty D6 F5c (fun _ a=>F4y a):=fun {H enc w base sp held fuel cs x} h=>by
 obtain ⟨hl,n,ys,rfl,l,j,b⟩:=A4v Tryz.underlying65 h
 have ac:cs.length=8:=hl.trans oki
 obtain ⟨y0,c,t0⟩:=b 0 _ rfl
 obtain ⟨a0,c0,r,p0⟩:=(A1t Tryz.underlying3) t0
 obtain ⟨t,f,t1⟩:=b 1 _ rfl
 obtain ⟨a1,c1,v,p1⟩:=(A1t Tryz.underlying3) t1
 obtain ⟨y2,d,o⟩:=b 2 _ rfl
 obtain ⟨a2,c2,q2,p2⟩:=E8v o
 obtain ⟨u,g,p⟩:=b 3 _ rfl
 obtain ⟨y,c3,z,m⟩:=E8v p
 obtain ⟨y4,i,s⟩:=b 4 _ rfl
 obtain ⟨a4,c4,q4,q⟩:=E8v s
 have e:cs=_:=(List.drop_zero).symm.trans (J6 c0 (J6 c1 (J6 c2 (J6 c3 (J6 c4 (List.drop_eq_nil_of_le (by omega:cs.length≤8)) oki) oki) oki) oki) oki)
 have k:ys=[y0,t,y2,u,y4]:=by
  match ys,j,c,f,d,g,i with
  | [z0,z1,z2,z3,z4],_,c,f,d,g,i=>simp at c f d g i;simp [c,f,d,g,i]
 rw [k] at l
 exact ⟨⟨a0,a1,a2,y,a4⟩,e,⟨_,_,_,_,_,l,r,v,q2,z,q4⟩,p0,p1,p2,m,q⟩
def F5y (a:Plc):Prop:=A9c a.row∧A9c a.col
def F6o {H:Type} (d:DataW H) (a:Plc):Prop:=∃ c b,d=.agg [c,b]∧B6p c a.row∧B6p b a.col
theorem F5x:Cod Tryz.prog 24 Plc S8 F6o (fun _ a=>F5y a):=fun {H enc w base sp held fuel cs x} h=>by
 obtain ⟨l,n,ys,rfl,i,d,g⟩:=A4v Tryz.underlying24 h
 have o:cs.length=2:=l.trans oki
 obtain ⟨q,b,v⟩:=g 0 _ rfl
 obtain ⟨r,c0,k,s⟩:=(A1t Tryz.underlying3) v
 obtain ⟨p,c,m⟩:=g 1 _ rfl
 obtain ⟨t,c1,u,j⟩:=(A1t Tryz.underlying3) m
 have e:cs=_:=(List.drop_zero).symm.trans (J6 c0 (J6 c1 (List.drop_eq_nil_of_le (by omega:cs.length≤2)) oki) oki)
 have f:ys=[q,p]:=by
  match ys,d,b,c with
  | [z0,z1],_,b,c=>simp at b c;simp [b,c]
 rw [f] at i
 exact ⟨⟨r,t⟩,e,⟨_,_,i,k,u⟩,s,j⟩
def F6s (a:Cur):Prop:=A9c a.row∧A9c a.col
def F6g {H:Type} (d:DataW H) (a:Cur):Prop:=∃ c b e,d=.agg [c,b,e]∧B6p c a.row∧B6p b a.col∧F1f e a.wrap
theorem F4h:Cod Tryz.prog 29 Cur H4 F6g (fun _ a=>F6s a):=fun {H enc w base sp held fuel cs x} h=>by
 obtain ⟨m,n,ys,rfl,j,g,f⟩:=A4v Tryz.underlying29 h
 have q:cs.length=3:=m.trans oki
 obtain ⟨s,b,t0⟩:=f 0 _ rfl
 obtain ⟨t,c0,l,u⟩:=(A1t Tryz.underlying3) t0
 obtain ⟨r,c,o⟩:=f 1 _ rfl
 obtain ⟨v,c1,z,k⟩:=(A1t Tryz.underlying3) o
 obtain ⟨y2,d,p⟩:=f 2 _ rfl
 obtain ⟨y,c2,q2,p2⟩:=(D8p Tryz.underlying4) p
 have e:cs=_:=(List.drop_zero).symm.trans (J6 c0 (J6 c1 (J6 c2 (List.drop_eq_nil_of_le (by omega:cs.length≤3)) oki) oki) oki)
 have i:ys=[s,r,y2]:=by
  match ys,g,b,c,d with
  | [z0,z1,z2],_,b,c,d=>simp at b c d;simp [b,c,d]
 rw [i] at j
 exact ⟨⟨t,v,y⟩,e,⟨_,_,_,j,l,z,q2⟩,u,k⟩
def F4n (a:Ar2):Prop:=A9c a.a∧A9c a.b
def F4x {H:Type} (d:DataW H) (a:Ar2):Prop:=∃ e c,d=.agg [e,c]∧B6p e a.a∧B6p c a.b
theorem F5p:Cod Tryz.prog 71 Ar2 A0r F4x (fun _ a=>F4n a):=fun {H enc w base sp held fuel cs x} h=>by
 obtain ⟨l,n,ys,rfl,i,d,g⟩:=C9u Tryz.underlying71 h
 have o:cs.length=2:=l.trans oki
 obtain ⟨q,b,v⟩:=g 0 ozw
 obtain ⟨r,c0,k,s⟩:=(A1t Tryz.underlying3) v
 obtain ⟨p,c,m⟩:=g 1 ozw
 obtain ⟨t,c1,u,j⟩:=(A1t Tryz.underlying3) m
 have e:cs=_:=(List.drop_zero).symm.trans (J6 c0 (J6 c1 (List.drop_eq_nil_of_le (by omega:cs.length≤2)) oki) oki)
 have f:ys=[q,p]:=by
  match ys,d,b,c with
  | [z0,z1],_,b,c=>simp at b c;simp [b,c]
 rw [f] at i
 exact ⟨⟨r,t⟩,e,⟨_,_,i,k,u⟩,s,j⟩
def F3i (a:Cel):Prop:=A9c a.base∧F4n a.marks∧A9c a.wide∧F4y a.sty
def F5q {H:Type} (d:DataW H) (a:Cel):Prop:=∃ c b f e,d=.agg [c,b,f,e]∧B6p c a.base∧F4x b a.marks∧B6p f a.wide∧F5c e a.sty
theorem F5v:Cod Tryz.prog 73 Cel D8 F5q (fun _ a=>F3i a):=fun {H enc w base sp held fuel cs x} h=>by
 obtain ⟨hl,n,ys,rfl,k,i,d⟩:=A4v Tryz.underlying73 h
 have a6:cs.length=12:=hl.trans oki
 obtain ⟨y0,b,v⟩:=d 0 _ rfl
 obtain ⟨a0,c0,p,p0⟩:=(A1t Tryz.underlying3) v
 obtain ⟨q,f,z⟩:=d 1 _ rfl
 obtain ⟨a1,c1,s,y⟩:=F5p z
 obtain ⟨y2,c,m⟩:=d 2 _ rfl
 obtain ⟨a2,c2,q2,p2⟩:=(A1t Tryz.underlying3) m
 obtain ⟨r,g,o⟩:=d 3 _ rfl
 obtain ⟨t,c3,u,l⟩:=F4f o
 have e:cs=_:=(List.drop_zero).symm.trans (J6 c0 (J6 c1 (J6 c2 (J6 c3 (List.drop_eq_nil_of_le (by omega:cs.length≤12)) oki) oki) oki) oki)
 have j:ys=[y0,q,y2,r]:=by
  match ys,i,b,f,c,g with
  | [z0,z1,z2,z3],_,b,f,c,g=>simp at b f c g;simp [b,f,c,g]
 rw [j] at k
 exact ⟨⟨a0,a1,a2,t⟩,e,⟨_,_,_,_,k,p,s,q2,u⟩,p0,y,p2,l⟩
theorem E8o {H:Type} {enc:TypeId×Value→H} {w:World} {q:Nat} {sp:Nat→Bool} {r:Bool} {y:Nat} {cs:List Value} {x:DataW H×List MemPlace} (h:DataW.trod enc Tryz.prog w q sp r y 26 cs=some x) :
  ∃ (l:Int) (j:Option Addr) (g:Nat) (b:List Slc) (f:List (List Cel)) (e:Plc) (i:Bool) (k:Int) (d:List UInt8),cs=(H5 l++([.slice j f.length g]++(S8 e++(A8z i++(H5 k++(F3x d++[]))))))∧(A9c l)∧(f.length≤g)∧(g≤9223372036854775807)∧(B4 b f)∧((sl D9 j b).p (C0t w))∧((D5 D8 b f).p (C0t w))∧(∀ xs ∈ f,∀ a ∈ xs,F3i a)∧(F5y e)∧(A9c k)∧(d.length≤9223372036854775807)∧(∃ ds,x.1=.agg ds∧DataW.lit (.string d) ∈ ds):=by
 obtain ⟨hl,n,ys,rfl,hx,a8,m⟩:=A4v Tryz.underlying26 h
 have af:cs.length=7:=hl.trans oki
 obtain ⟨y0,e0,t0⟩:=m 0 _ rfl
 obtain ⟨l,c0,q0,p0⟩:=(A1t Tryz.underlying3) t0
 obtain ⟨y1,e1,t1⟩:=m 1 _ rfl
 obtain ⟨j,g,b,f,c1,s,t,z,v,o,u⟩:=E4e (c:=D8) (D:=F5q) (p:=fun _ a=>F3i a) F5v (sz:=12) (fun _=>rfl) oki ozw Tryz.underlying70 oki Tryz.underlying22 t1
 obtain ⟨y2,e2,t2⟩:=m 2 _ rfl
 obtain ⟨e,c2,q2,p2⟩:=F5x t2
 obtain ⟨y3,e3,t3⟩:=m 3 _ rfl
 obtain ⟨i,c3,q3,p3⟩:=(D8p Tryz.underlying4) t3
 obtain ⟨y4,e4,t4⟩:=m 4 _ rfl
 obtain ⟨k,c4,q4,p4⟩:=(A1t Tryz.underlying3) t4
 obtain ⟨y5,e5,t5⟩:=m 5 _ rfl
 obtain ⟨d,c5,q5,p5⟩:=(E9f Tryz.underlying9) t5
 exact ⟨l,j,g,b,f,e,i,k,d,(List.drop_zero).symm.trans (J6 c0 (J6 c1 (J6 c2 (J6 c3 (J6 c4 (J6 c5 (List.drop_eq_nil_of_le (by omega:cs.length≤7)) oki) oki) oki) oki) oki) oki),p0,s,t,z,v,o,u,p2,p4,p5,⟨_,hx,by rw [← show y5.1=DataW.lit (.string d) from q5];exact List.mem_map_of_mem (List.mem_of_getElem? e5)⟩⟩
end Go.Proofs.YtgimbmncdmnklaaGreatDoor
namespace Go.Proofs.YtgimbmncdmnklaaGreatDoor
open Go Go.Fen Go.RowKit Go.ChangeShapes
def E3l:DataW Unit→Option Atr
 | .agg [.lit (.int .i64 a),.lit (.int .i64 b),.lit (.int .i64 c)]=>some ⟨a,b,c⟩
 | _=>none
theorem E1y (d:DataW Unit) (a:Atr) (h:F3o d a):E3l d=some a:=by
 obtain ⟨f,i,g,rfl,e,c,b⟩:=h
 unfold B6p at e c b
 subst e c b
 rfl
def D5i:DataW Unit→Option Spn
 | .agg [.lit (.int .i64 a),.lit (.int .i64 b)]=>some ⟨a,b⟩
 | _=>none
theorem C9q (d:DataW Unit) (a:Spn) (h:E9s d a):D5i d=some a:=by
 obtain ⟨e,f,rfl,c,b⟩:=h
 unfold B6p at c b
 subst c b
 rfl
end Go.Proofs.YtgimbmncdmnklaaGreatDoor
namespace Go.Proofs.YtgimbmncdmnklaaGreatDoor
open Go Go.Fen Go.RowKit Go.ChangeShapes
namespace bulks
theorem F0u {H:Type} {d:DataW H} {l:List (DataW H)} (h:d ∈ l):Rows.uptoBulk d≤Rows.uptoBulkAll l:=by
 induction l with
 | nil=>cases h
 | cons x r ih =>
  simp only [Rows.uptoBulkAll]
  cases List.mem_cons.1 h with
  | inl e=>subst e;omega
  | inr e=>have:=ih e;omega
theorem bound {H:Type} {l:List (DataW H)} (a:Rows.uptoSmall H l=true):Rows.uptoBulkAll l≤1048576:=by
 simpa [Rows.uptoSmall] using a
theorem str_in {H:Type} {d:DataW H} {s:List UInt8} (h:∃ ds,d=.agg ds∧DataW.lit (.string s) ∈ ds):s.length+2≤Rows.uptoBulk d:=by
 obtain ⟨ds,rfl,a⟩:=h
 have:=F0u a
 simp only [Rows.uptoBulk] at this ⊢
 omega
end bulks
end Go.Proofs.YtgimbmncdmnklaaGreatDoor
