import Derived.Test.YtmldjljkeigpnaaGreatDoorRows
import Derived.Test.YtmldjljkeigpnaaGreatDoorMA2
import Derived.Test.YtmldjljkeigpnaaGreatDoorMB1
import Derived.Test.YtmldjljkeigpnaaGreatDoorMQ1
set_option linter.unusedVariables false
set_option linter.unusedSimpArgs false
set_option linter.unnecessarySimpa false
set_option maxRecDepth 100000
namespace Go.Proofs.YtmldjljkeigpnaaGreatDoor
open Go Go.Fen Go.RowKit Go.ChangeShapes
section
variable {h:Hp}
theorem all_nil:∀ q ∈ ([]:List Pers),q.p h:=fun _ h=>by cases h
theorem all_cons {q:Pers} {Φ:List Pers} (c:q.p h) (d:∀ q ∈ Φ,q.p h):∀ a ∈ q::Φ,a.p h:=fun a b=>by
 rcases List.mem_cons.1 b with rfl | b
 ·exact c
 ·exact d a b
def F9r {H:Type} (d:DataW H) (n:Int):Prop:=d=.lit (.int .u64 n)
theorem F7t {P:Program} {T:TypeId} (a:P.underlying T=some (.int .u64)):Cod P T Int G2h F9r (fun _ _=>True):=fun h=>by
 obtain ⟨n,rfl,rfl,b⟩:=DataW.trod_int a h
 exact ⟨n,rfl,rfl,trivial⟩
def F0m:DataW Unit→Option Int
 | .lit (.int .u64 a)=>some a
 | _=>none
theorem E7w (d:DataW Unit) (a:Int) (h:F9r d a):F0m d=some a:=by
 unfold F9r at h
 subst h
 rfl
theorem E8e:Lib.pow10Tab.flatMap G2h=C2i:=by kernel_rfl
def C6u (h:Array Obj) (g:Nat) (cs:List Value):Array Obj:=h.modify g fun
 | .cells _ t fr=>.cells cs.toArray t fr
 | o=>o
mutual
def B1p:DataW Unit→List Value
 | .agg ds=>C8g ds
 | .lit (.int k n)=>[.int k n]
 | .lit (.bool b)=>[.bool b]
 | .lit (.string s)=>[.string ⟨s.toArray⟩]
 | _=>[]
def C8g:List (DataW Unit)→List Value
 | []=>[]
 | d::r=>B1p d++C8g r
end
end
end Go.Proofs.YtmldjljkeigpnaaGreatDoor
namespace Go.Proofs.YtmldjljkeigpnaaGreatDoor
open Go Go.Fen
section
open Go.RowKit Go.ChangeShapes
def G3z (a:Atr):Prop:=A9q a.a∧A9q a.b∧A9q a.c
def G3a {H:Type} (d:DataW H) (a:Atr):Prop:=∃ f e g,d=.agg [f,e,g]∧B7h f a.a∧B7h e a.b∧B7h g a.c
theorem G2q:Cod Tryz.prog 324 Atr C7a G3a (fun _ a=>G3z a):=fun {H enc w base sp held fuel cs x} h=>by
 obtain ⟨m,n,ys,rfl,j,g,f⟩:=A6g Tryz.underlying324 h
 have q:cs.length=3:=m.trans oki
 obtain ⟨s,b,t0⟩:=f 0 _ Z
 obtain ⟨t,c0,l,u⟩:=(A2t Tryz.underlying3) t0
 obtain ⟨r,c,o⟩:=f 1 _ Z
 obtain ⟨v,c1,z,k⟩:=(A2t Tryz.underlying3) o
 obtain ⟨y2,d,p⟩:=f 2 _ Z
 obtain ⟨y,c2,q2,p2⟩:=(A2t Tryz.underlying3) p
 have e:cs=_:=(List.drop_zero).symm.trans (J6 c0 (J6 c1 (J6 c2 (List.drop_eq_nil_of_le (by omega:cs.length≤3)) oki) oki) oki)
 have i:ys=[s,r,y2]:=by
  match ys,g,b,c,d with
  | [z0,z1,z2],_,b,c,d=>simp at b c d;simp [b,c,d]
 rw [i] at j
 exact ⟨⟨t,v,y⟩,e,⟨_,_,_,j,l,z,q2⟩,u,k,p2⟩
def G3b (a:Spn):Prop:=A9q a.lo∧A9q a.hi
def F8m {H:Type} (d:DataW H) (a:Spn):Prop:=∃ c b,d=.agg [c,b]∧B7h c a.lo∧B7h b a.hi
theorem F4w:Cod Tryz.prog 207 Spn C0 F8m (fun _ a=>G3b a):=fun {H enc w base sp held fuel cs x} h=>by
 obtain ⟨l,n,ys,rfl,i,d,g⟩:=A6g Tryz.underlying207 h
 have o:cs.length=2:=l.trans oki
 obtain ⟨q,b,v⟩:=g 0 _ Z
 obtain ⟨r,c0,k,s⟩:=(A2t Tryz.underlying3) v
 obtain ⟨p,c,m⟩:=g 1 _ Z
 obtain ⟨t,c1,u,j⟩:=(A2t Tryz.underlying3) m
 have e:cs=_:=(List.drop_zero).symm.trans (J6 c0 (J6 c1 (List.drop_eq_nil_of_le (by omega:cs.length≤2)) oki) oki)
 have f:ys=[q,p]:=by
  match ys,d,b,c with
  | [z0,z1],_,b,c=>simp at b c;simp [b,c]
 rw [f] at i
 exact ⟨⟨r,t⟩,e,⟨_,_,i,k,u⟩,s,j⟩
def F8h (a:Col):Prop:=A9q a.kind∧A9q a.n
def F8e {H:Type} (d:DataW H) (a:Col):Prop:=∃ c b,d=.agg [c,b]∧B7h c a.kind∧B7h b a.n
theorem F7d:Cod Tryz.prog 49 Col R1 F8e (fun _ a=>F8h a):=fun {H enc w base sp held fuel cs x} h=>by
 obtain ⟨l,n,ys,rfl,i,d,g⟩:=A6g Tryz.underlying49 h
 have o:cs.length=2:=l.trans oki
 obtain ⟨q,b,v⟩:=g 0 _ Z
 obtain ⟨r,c0,k,s⟩:=(A2t Tryz.underlying3) v
 obtain ⟨p,c,m⟩:=g 1 _ Z
 obtain ⟨t,c1,u,j⟩:=(A2t Tryz.underlying3) m
 have e:cs=_:=(List.drop_zero).symm.trans (J6 c0 (J6 c1 (List.drop_eq_nil_of_le (by omega:cs.length≤2)) oki) oki)
 have f:ys=[q,p]:=by
  match ys,d,b,c with
  | [z0,z1],_,b,c=>simp at b c;simp [b,c]
 rw [f] at i
 exact ⟨⟨r,t⟩,e,⟨_,_,i,k,u⟩,s,j⟩
def G4h (a:Sty):Prop:=A9q a.attr∧A9q a.under∧F8h a.fore∧F8h a.back∧F8h a.line
def G4n {H:Type} (d:DataW H) (a:Sty):Prop:=∃ b g f e c,d=.agg [b,g,f,e,c]∧B7h b a.attr∧B7h g a.under∧F8e f a.fore∧F8e e a.back∧F8e c a.line
theorem G4x:Cod Tryz.prog 63 Sty B7 G4n (fun _ a=>G4h a):=fun {H enc w base sp held fuel cs x} h=>by
 obtain ⟨hl,n,ys,rfl,l,j,b⟩:=A6g Tryz.underlying63 h
 have ak:cs.length=8:=hl.trans oki
 obtain ⟨y0,c,t0⟩:=b 0 _ Z
 obtain ⟨a0,c0,r,p0⟩:=(A2t Tryz.underlying3) t0
 obtain ⟨t,f,t1⟩:=b 1 _ Z
 obtain ⟨a1,c1,v,p1⟩:=(A2t Tryz.underlying3) t1
 obtain ⟨y2,d,o⟩:=b 2 _ Z
 obtain ⟨a2,c2,q2,p2⟩:=F7d o
 obtain ⟨u,g,p⟩:=b 3 _ Z
 obtain ⟨y,c3,z,m⟩:=F7d p
 obtain ⟨y4,i,s⟩:=b 4 _ Z
 obtain ⟨a4,c4,q4,q⟩:=F7d s
 have e:cs=_:=(List.drop_zero).symm.trans (J6 c0 (J6 c1 (J6 c2 (J6 c3 (J6 c4 (List.drop_eq_nil_of_le (by omega:cs.length≤8)) oki) oki) oki) oki) oki)
 have k:ys=[y0,t,y2,u,y4]:=by
  match ys,j,c,f,d,g,i with
  | [z0,z1,z2,z3,z4],_,c,f,d,g,i=>simp at c f d g i;simp [c,f,d,g,i]
 rw [k] at l
 exact ⟨⟨a0,a1,a2,y,a4⟩,e,⟨_,_,_,_,_,l,r,v,q2,z,q4⟩,p0,p1,p2,m,q⟩
def G5p (a:Plc):Prop:=A9q a.row∧A9q a.col
def G6i {H:Type} (d:DataW H) (a:Plc):Prop:=∃ c b,d=.agg [c,b]∧B7h c a.row∧B7h b a.col
theorem G5o:Cod Tryz.prog 24 Plc A0n G6i (fun _ a=>G5p a):=fun {H enc w base sp held fuel cs x} h=>by
 obtain ⟨l,n,ys,rfl,i,d,g⟩:=A6g Tryz.underlying24 h
 have o:cs.length=2:=l.trans oki
 obtain ⟨q,b,v⟩:=g 0 _ Z
 obtain ⟨r,c0,k,s⟩:=(A2t Tryz.underlying3) v
 obtain ⟨p,c,m⟩:=g 1 _ Z
 obtain ⟨t,c1,u,j⟩:=(A2t Tryz.underlying3) m
 have e:cs=_:=(List.drop_zero).symm.trans (J6 c0 (J6 c1 (List.drop_eq_nil_of_le (by omega:cs.length≤2)) oki) oki)
 have f:ys=[q,p]:=by
  match ys,d,b,c with
  | [z0,z1],_,b,c=>simp at b c;simp [b,c]
 rw [f] at i
 exact ⟨⟨r,t⟩,e,⟨_,_,i,k,u⟩,s,j⟩
def G3x (a:Ar2):Prop:=A9q a.a∧A9q a.b
def G4g {H:Type} (d:DataW H) (a:Ar2):Prop:=∃ e c,d=.agg [e,c]∧B7h e a.a∧B7h c a.b
theorem G5n:Cod Tryz.prog 69 Ar2 A3a G4g (fun _ a=>G3x a):=fun {H enc w base sp held fuel cs x} h=>by
 obtain ⟨l,n,ys,rfl,i,d,g⟩:=D5s Tryz.underlying69 h
 have o:cs.length=2:=l.trans oki
 obtain ⟨q,b,v⟩:=g 0 ozw
 obtain ⟨r,c0,k,s⟩:=(A2t Tryz.underlying3) v
 obtain ⟨p,c,m⟩:=g 1 ozw
 obtain ⟨t,c1,u,j⟩:=(A2t Tryz.underlying3) m
 have e:cs=_:=(List.drop_zero).symm.trans (J6 c0 (J6 c1 (List.drop_eq_nil_of_le (by omega:cs.length≤2)) oki) oki)
 have f:ys=[q,p]:=by
  match ys,d,b,c with
  | [z0,z1],_,b,c=>simp at b c;simp [b,c]
 rw [f] at i
 exact ⟨⟨r,t⟩,e,⟨_,_,i,k,u⟩,s,j⟩
def G2u (a:Cel):Prop:=A9q a.base∧G3x a.marks∧A9q a.wide∧G4h a.sty
def G5f {H:Type} (d:DataW H) (a:Cel):Prop:=∃ c b f e,d=.agg [c,b,f,e]∧B7h c a.base∧G4g b a.marks∧B7h f a.wide∧G4n e a.sty
theorem G5e:Cod Tryz.prog 71 Cel D0 G5f (fun _ a=>G2u a):=fun {H enc w base sp held fuel cs x} h=>by
 obtain ⟨hl,n,ys,rfl,k,i,d⟩:=A6g Tryz.underlying71 h
 have a6:cs.length=12:=hl.trans oki
 obtain ⟨y0,b,v⟩:=d 0 _ Z
 obtain ⟨a0,c0,p,p0⟩:=(A2t Tryz.underlying3) v
 obtain ⟨q,f,z⟩:=d 1 _ Z
 obtain ⟨a1,c1,s,y⟩:=G5n z
 obtain ⟨y2,c,m⟩:=d 2 _ Z
 obtain ⟨a2,c2,q2,p2⟩:=(A2t Tryz.underlying3) m
 obtain ⟨r,g,o⟩:=d 3 _ Z
 obtain ⟨t,c3,u,l⟩:=G4x o
 have e:cs=_:=(List.drop_zero).symm.trans (J6 c0 (J6 c1 (J6 c2 (J6 c3 (List.drop_eq_nil_of_le (by omega:cs.length≤12)) oki) oki) oki) oki)
 have j:ys=[y0,q,y2,r]:=by
  match ys,i,b,f,c,g with
  | [z0,z1,z2,z3],_,b,f,c,g=>simp at b f c g;simp [b,f,c,g]
 rw [j] at k
 exact ⟨⟨a0,a1,a2,t⟩,e,⟨_,_,_,_,k,p,s,q2,u⟩,p0,y,p2,l⟩
theorem F7h {H:Type} {enc:TypeId×Value→H} {w:World} {q:Nat} {sp:Nat→Bool} {r:Bool} {y:Nat} {cs:List Value} {x:DataW H×List MemPlace} (h:DataW.trod enc Tryz.prog w q sp r y 26 cs=some x) :
  ∃ (l:Int) (j:kQ) (g:Nat) (b:List Slc) (f:jj) (e:Plc) (i:Bool) (k:Int) (d:List UInt8),cs=(H0 l++([.slice j f.length g]++(A0n e++(B1w i++(H0 k++(G3i d++[]))))))∧(A9q l)∧(f.length≤g)∧(g≤9223372036854775807)∧(B4 b f)∧((sl F0 j b).p (C5p w))∧((D8 D0 b f).p (C5p w))∧(∀ xs ∈ f,∀ a ∈ xs,G2u a)∧(G5p e)∧(A9q k)∧(d.length≤9223372036854775807)∧(∃ ds,x.1=.agg ds∧DataW.lit (.string d) ∈ ds):=by
 obtain ⟨hl,n,ys,rfl,hx,a8,m⟩:=A6g Tryz.underlying26 h
 have ap:cs.length=7:=hl.trans oki
 obtain ⟨y0,e0,t0⟩:=m 0 _ Z
 obtain ⟨l,c0,q0,p0⟩:=(A2t Tryz.underlying3) t0
 obtain ⟨y1,e1,t1⟩:=m 1 _ Z
 obtain ⟨j,g,b,f,c1,s,t,z,v,o,u⟩:=F2d (c:=D0) (D:=G5f) (p:=fun _ a=>G2u a) G5e (sz:=12) jJ oki ozw Tryz.underlying68 oki Tryz.underlying22 t1
 obtain ⟨y2,e2,t2⟩:=m 2 _ Z
 obtain ⟨e,c2,q2,p2⟩:=G5o t2
 obtain ⟨y3,e3,t3⟩:=m 3 _ Z
 obtain ⟨i,c3,q3,p3⟩:=(E5u Tryz.underlying4) t3
 obtain ⟨y4,e4,t4⟩:=m 4 _ Z
 obtain ⟨k,c4,q4,p4⟩:=(A2t Tryz.underlying3) t4
 obtain ⟨y5,e5,t5⟩:=m 5 _ Z
 obtain ⟨d,c5,q5,p5⟩:=(F7w Tryz.underlying9) t5
 exact ⟨l,j,g,b,f,e,i,k,d,(List.drop_zero).symm.trans (J6 c0 (J6 c1 (J6 c2 (J6 c3 (J6 c4 (J6 c5 (List.drop_eq_nil_of_le (by omega:cs.length≤7)) oki) oki) oki) oki) oki) oki),p0,s,t,z,v,o,u,p2,p4,p5,⟨_,hx,by rw [← show y5.1=DataW.lit (.string d) from q5];exact List.mem_map_of_mem (List.mem_of_getElem? e5)⟩⟩
end
end Go.Proofs.YtmldjljkeigpnaaGreatDoor
namespace Go.Proofs.YtmldjljkeigpnaaGreatDoor
open Go Go.Fen Go.RowKit Go.ChangeShapes
def F1e:DataW Unit→Option Atr
 | .agg [.lit (.int .i64 a),.lit (.int .i64 b),.lit (.int .i64 c)]=>some ⟨a,b,c⟩
 | _=>none
theorem E9q (d:DataW Unit) (a:Atr) (h:G3a d a):F1e d=some a:=by
 obtain ⟨f,i,g,rfl,e,c,b⟩:=h
 unfold B7h at e c b
 subst e c b
 rfl
def E1z:DataW Unit→Option Spn
 | .agg [.lit (.int .i64 a),.lit (.int .i64 b)]=>some ⟨a,b⟩
 | _=>none
theorem D5p (d:DataW Unit) (a:Spn) (h:F8m d a):E1z d=some a:=by
 obtain ⟨e,f,rfl,c,b⟩:=h
 unfold B7h at c b
 subst c b
 rfl
end Go.Proofs.YtmldjljkeigpnaaGreatDoor
namespace Go.Proofs.YtmldjljkeigpnaaGreatDoor
open Go Go.Fen Go.RowKit Go.ChangeShapes
variable {H:Type} {d:DataW H} {l:List (DataW H)}
namespace bulks
theorem F9y (h:d ∈ l):Rows.uptoBulk d≤Rows.uptoBulkAll l:=by
 induction l with
 | nil=>cases h
 | cons x r ih =>
  simp only [Rows.uptoBulkAll]
  cases List.mem_cons.1 h with
  | inl e=>subst e;omega
  | inr e=>have:=ih e;omega
theorem bound (a:Rows.uptoSmall H l=true):Rows.uptoBulkAll l≤1048576:=by
 simpa [Rows.uptoSmall] using a
theorem str_in {s:List UInt8} (h:∃ ds,d=.agg ds∧DataW.lit (.string s) ∈ ds):s.length+2≤Rows.uptoBulk d:=by
 obtain ⟨ds,rfl,a⟩:=h
 have:=F9y a
 simp only [Rows.uptoBulk] at this ⊢
 omega
end bulks
end Go.Proofs.YtmldjljkeigpnaaGreatDoor
