import Derived.Test.YthcjfkljekdioaaGreatDoorRows
import Derived.Test.YthcjfkljekdioaaGreatDoorMA2
import Derived.Test.YthcjfkljekdioaaGreatDoorMB1
set_option linter.unusedVariables false
set_option linter.unusedSimpArgs false
set_option linter.unnecessarySimpa false
namespace Go.Proofs.YthcjfkljekdioaaGreatDoor
open Go Go.Fen
open Go.RowKit Go.ChangeShapes
def C6j (a:Spn):Prop:=A1y a.lo∧A1y a.hi
def C3y {H:Type} (d:DataW H) (a:Spn):Prop:=∃ d0 d1,d=.agg [d0,d1]∧A7u d0 a.lo∧A7u d1 a.hi
set_option maxRecDepth 100000 in
theorem C1b:Cod Tryz.prog 164 Spn C0 C3y (fun _ a=>C6j a):=fun {H enc w base sp held fuel cs x} h=>by
 obtain ⟨hl,n,ys,rfl,hx,hyl,hf⟩:=X0 Tryz.underlying164 h
 have hl':cs.length=2:=hl.trans (by kernel_rfl)
 obtain ⟨y0,e0,t0⟩:=hf 0 _ rfl
 obtain ⟨a0,c0,q0,p0⟩:=(U3 Tryz.underlying3) t0
 obtain ⟨y1,e1,t1⟩:=hf 1 _ rfl
 obtain ⟨a1,c1,q1,p1⟩:=(U3 Tryz.underlying3) t1
 have e:cs=_:=(List.drop_zero).symm.trans (G8 c0 (G8 c1 (List.drop_eq_nil_of_le (by omega:cs.length≤2)) (by kernel_rfl)) (by kernel_rfl))
 have hys:ys=[y0,y1]:=by
  match ys,hyl,e0,e1 with
  | [z0,z1],_,e0,e1=>simp at e0 e1;simp [e0,e1]
 rw [hys] at hx
 exact ⟨⟨a0,a1⟩,e,⟨_,_,hx,q0,q1⟩,p0,p1⟩
def C7a (a:Ar2):Prop:=A1y a.a∧A1y a.b
def C7w {H:Type} (d:DataW H) (a:Ar2):Prop:=∃ d0 d1,d=.agg [d0,d1]∧A7u d0 a.a∧A7u d1 a.b
set_option maxRecDepth 100000 in
theorem C7z:Cod Tryz.prog 70 Ar2 A8p C7w (fun _ a=>C7a a):=fun {H enc w base sp held fuel cs x} h=>by
 obtain ⟨hl,n,ys,rfl,hx,hyl,hf⟩:=B1p Tryz.underlying70 h
 have hl':cs.length=2:=hl.trans (by kernel_rfl)
 obtain ⟨y0,e0,t0⟩:=hf 0 (by decide)
 obtain ⟨a0,c0,q0,p0⟩:=(U3 Tryz.underlying3) t0
 obtain ⟨y1,e1,t1⟩:=hf 1 (by decide)
 obtain ⟨a1,c1,q1,p1⟩:=(U3 Tryz.underlying3) t1
 have e:cs=_:=(List.drop_zero).symm.trans (G8 c0 (G8 c1 (List.drop_eq_nil_of_le (by omega:cs.length≤2)) (by kernel_rfl)) (by kernel_rfl))
 have hys:ys=[y0,y1]:=by
  match ys,hyl,e0,e1 with
  | [z0,z1],_,e0,e1=>simp at e0 e1;simp [e0,e1]
 rw [hys] at hx
 exact ⟨⟨a0,a1⟩,e,⟨_,_,hx,q0,q1⟩,p0,p1⟩
def C3q (a:Col):Prop:=A1y a.kind∧A1y a.n
def C3w {H:Type} (d:DataW H) (a:Col):Prop:=∃ d0 d1,d=.agg [d0,d1]∧A7u d0 a.kind∧A7u d1 a.n
set_option maxRecDepth 100000 in
theorem C1m:Cod Tryz.prog 40 Col U7 C3w (fun _ a=>C3q a):=fun {H enc w base sp held fuel cs x} h=>by
 obtain ⟨hl,n,ys,rfl,hx,hyl,hf⟩:=X0 Tryz.underlying40 h
 have hl':cs.length=2:=hl.trans (by kernel_rfl)
 obtain ⟨y0,e0,t0⟩:=hf 0 _ rfl
 obtain ⟨a0,c0,q0,p0⟩:=(U3 Tryz.underlying3) t0
 obtain ⟨y1,e1,t1⟩:=hf 1 _ rfl
 obtain ⟨a1,c1,q1,p1⟩:=(U3 Tryz.underlying3) t1
 have e:cs=_:=(List.drop_zero).symm.trans (G8 c0 (G8 c1 (List.drop_eq_nil_of_le (by omega:cs.length≤2)) (by kernel_rfl)) (by kernel_rfl))
 have hys:ys=[y0,y1]:=by
  match ys,hyl,e0,e1 with
  | [z0,z1],_,e0,e1=>simp at e0 e1;simp [e0,e1]
 rw [hys] at hx
 exact ⟨⟨a0,a1⟩,e,⟨_,_,hx,q0,q1⟩,p0,p1⟩
def C7m (a:Sty):Prop:=A1y a.attr∧A1y a.under∧C3q a.fore∧C3q a.back∧C3q a.line
def C7i {H:Type} (d:DataW H) (a:Sty):Prop:=∃ d0 d1 d2 d3 d4,d=.agg [d0,d1,d2,d3,d4]∧A7u d0 a.attr∧A7u d1 a.under∧C3w d2 a.fore∧C3w d3 a.back∧C3w d4 a.line
set_option maxRecDepth 100000 in
theorem C7x:Cod Tryz.prog 42 Sty J8 C7i (fun _ a=>C7m a):=fun {H enc w base sp held fuel cs x} h=>by
 obtain ⟨hl,n,ys,rfl,hx,hyl,hf⟩:=X0 Tryz.underlying42 h
 have hl':cs.length=8:=hl.trans (by kernel_rfl)
 obtain ⟨y0,e0,t0⟩:=hf 0 _ rfl
 obtain ⟨a0,c0,q0,p0⟩:=(U3 Tryz.underlying3) t0
 obtain ⟨y1,e1,t1⟩:=hf 1 _ rfl
 obtain ⟨a1,c1,q1,p1⟩:=(U3 Tryz.underlying3) t1
 obtain ⟨y2,e2,t2⟩:=hf 2 _ rfl
 obtain ⟨a2,c2,q2,p2⟩:=C1m t2
 obtain ⟨y3,e3,t3⟩:=hf 3 _ rfl
 obtain ⟨a3,c3,q3,p3⟩:=C1m t3
 obtain ⟨y4,e4,t4⟩:=hf 4 _ rfl
 obtain ⟨a4,c4,q4,p4⟩:=C1m t4
 have e:cs=_:=(List.drop_zero).symm.trans (G8 c0 (G8 c1 (G8 c2 (G8 c3 (G8 c4 (List.drop_eq_nil_of_le (by omega:cs.length≤8)) (by kernel_rfl)) (by kernel_rfl)) (by kernel_rfl)) (by kernel_rfl)) (by kernel_rfl))
 have hys:ys=[y0,y1,y2,y3,y4]:=by
  match ys,hyl,e0,e1,e2,e3,e4 with
  | [z0,z1,z2,z3,z4],_,e0,e1,e2,e3,e4=>simp at e0 e1 e2 e3 e4;simp [e0,e1,e2,e3,e4]
 rw [hys] at hx
 exact ⟨⟨a0,a1,a2,a3,a4⟩,e,⟨_,_,_,_,_,hx,q0,q1,q2,q3,q4⟩,p0,p1,p2,p3,p4⟩
def C5i (a:Cel):Prop:=A1y a.base∧C7a a.marks∧A1y a.wide∧C7m a.sty
def C7n {H:Type} (d:DataW H) (a:Cel):Prop:=∃ d0 d1 d2 d3,d=.agg [d0,d1,d2,d3]∧A7u d0 a.base∧C7w d1 a.marks∧A7u d2 a.wide∧C7i d3 a.sty
set_option maxRecDepth 100000 in
theorem C6z:Cod Tryz.prog 72 Cel B3 C7n (fun _ a=>C5i a):=fun {H enc w base sp held fuel cs x} h=>by
 obtain ⟨hl,n,ys,rfl,hx,hyl,hf⟩:=X0 Tryz.underlying72 h
 have hl':cs.length=12:=hl.trans (by kernel_rfl)
 obtain ⟨y0,e0,t0⟩:=hf 0 _ rfl
 obtain ⟨a0,c0,q0,p0⟩:=(U3 Tryz.underlying3) t0
 obtain ⟨y1,e1,t1⟩:=hf 1 _ rfl
 obtain ⟨a1,c1,q1,p1⟩:=C7z t1
 obtain ⟨y2,e2,t2⟩:=hf 2 _ rfl
 obtain ⟨a2,c2,q2,p2⟩:=(U3 Tryz.underlying3) t2
 obtain ⟨y3,e3,t3⟩:=hf 3 _ rfl
 obtain ⟨a3,c3,q3,p3⟩:=C7x t3
 have e:cs=_:=(List.drop_zero).symm.trans (G8 c0 (G8 c1 (G8 c2 (G8 c3 (List.drop_eq_nil_of_le (by omega:cs.length≤12)) (by kernel_rfl)) (by kernel_rfl)) (by kernel_rfl)) (by kernel_rfl))
 have hys:ys=[y0,y1,y2,y3]:=by
  match ys,hyl,e0,e1,e2,e3 with
  | [z0,z1,z2,z3],_,e0,e1,e2,e3=>simp at e0 e1 e2 e3;simp [e0,e1,e2,e3]
 rw [hys] at hx
 exact ⟨⟨a0,a1,a2,a3⟩,e,⟨_,_,_,_,hx,q0,q1,q2,q3⟩,p0,p1,p2,p3⟩
def C7j (a:Plc):Prop:=A1y a.row∧A1y a.col
def C8l {H:Type} (d:DataW H) (a:Plc):Prop:=∃ d0 d1,d=.agg [d0,d1]∧A7u d0 a.row∧A7u d1 a.col
set_option maxRecDepth 100000 in
theorem C4m:Cod Tryz.prog 24 Plc G0 C8l (fun _ a=>C7j a):=fun {H enc w base sp held fuel cs x} h=>by
 obtain ⟨hl,n,ys,rfl,hx,hyl,hf⟩:=X0 Tryz.underlying24 h
 have hl':cs.length=2:=hl.trans (by kernel_rfl)
 obtain ⟨y0,e0,t0⟩:=hf 0 _ rfl
 obtain ⟨a0,c0,q0,p0⟩:=(U3 Tryz.underlying3) t0
 obtain ⟨y1,e1,t1⟩:=hf 1 _ rfl
 obtain ⟨a1,c1,q1,p1⟩:=(U3 Tryz.underlying3) t1
 have e:cs=_:=(List.drop_zero).symm.trans (G8 c0 (G8 c1 (List.drop_eq_nil_of_le (by omega:cs.length≤2)) (by kernel_rfl)) (by kernel_rfl))
 have hys:ys=[y0,y1]:=by
  match ys,hyl,e0,e1 with
  | [z0,z1],_,e0,e1=>simp at e0 e1;simp [e0,e1]
 rw [hys] at hx
 exact ⟨⟨a0,a1⟩,e,⟨_,_,hx,q0,q1⟩,p0,p1⟩
set_option maxRecDepth 100000 in
theorem C1u {H:Type} {enc:TypeId×Value→H} {w:World} {base:Nat} {sp:Nat→Bool} {held:Bool} {fuel:Nat} {cs:List Value} {x:DataW H×List MemPlace} (h:DataW.trod enc Tryz.prog w base sp held fuel 26 cs=some x) :
  ∃ (cols:Int) (rowsq:Option Addr) (rowsk:Nat) (rowsrs:List Slc) (rows:List (List Cel)) (cursor:Plc) (visible:Bool) (shape:Int) (title:List UInt8),cs=(Q9 cols++([.slice rowsq rows.length rowsk]++(G0 cursor++(F6 visible++(Q9 shape++(C6g title++[]))))))∧(A1y cols)∧(rows.length≤rowsk)∧(rowsk≤9223372036854775807)∧(C5 rowsrs rows)∧((sl C3 rowsq rowsrs).p (A8x w))∧((E7 B3 rowsrs rows).p (A8x w))∧(∀ xs ∈ rows,∀ a ∈ xs,C5i a)∧(C7j cursor)∧(A1y shape)∧(title.length≤9223372036854775807)∧(∃ ds,x.1=.agg ds∧DataW.lit (.string title) ∈ ds):=by
 obtain ⟨hl,n,ys,rfl,hx,hyl,hf⟩:=X0 Tryz.underlying26 h
 have hl':cs.length=7:=hl.trans (by kernel_rfl)
 obtain ⟨y0,e0,t0⟩:=hf 0 _ rfl
 obtain ⟨cols,c0,q0,p0⟩:=(U3 Tryz.underlying3) t0
 obtain ⟨y1,e1,t1⟩:=hf 1 _ rfl
 obtain ⟨rowsq,rowsk,rowsrs,rows,c1,g1_1,g1_2,g1_3,g1_4,g1_5,g1_6⟩:=C0c (c:=B3) (D:=C7n) (p:=fun _ a=>C5i a) C6z (sz:=12) (fun _=>rfl) (by kernel_rfl) (by decide) Tryz.underlying69 (by kernel_rfl) Tryz.underlying22 t1
 obtain ⟨y2,e2,t2⟩:=hf 2 _ rfl
 obtain ⟨cursor,c2,q2,p2⟩:=C4m t2
 obtain ⟨y3,e3,t3⟩:=hf 3 _ rfl
 obtain ⟨visible,c3,q3,p3⟩:=(C1n Tryz.underlying4) t3
 obtain ⟨y4,e4,t4⟩:=hf 4 _ rfl
 obtain ⟨shape,c4,q4,p4⟩:=(U3 Tryz.underlying3) t4
 obtain ⟨y5,e5,t5⟩:=hf 5 _ rfl
 obtain ⟨title,c5,q5,p5⟩:=(C3g Tryz.underlying9) t5
 exact ⟨cols,rowsq,rowsk,rowsrs,rows,cursor,visible,shape,title,(List.drop_zero).symm.trans (G8 c0 (G8 c1 (G8 c2 (G8 c3 (G8 c4 (G8 c5 (List.drop_eq_nil_of_le (by omega:cs.length≤7)) (by kernel_rfl)) (by kernel_rfl)) (by kernel_rfl)) (by kernel_rfl)) (by kernel_rfl)) (by kernel_rfl)),p0,g1_1,g1_2,g1_3,g1_4,g1_5,g1_6,p2,p4,p5,⟨_,hx,by rw [← show y5.1=DataW.lit (.string title) from q5];exact List.mem_map_of_mem (List.mem_of_getElem? e5)⟩⟩
end Go.Proofs.YthcjfkljekdioaaGreatDoor
set_option linter.unusedVariables false
set_option linter.unusedSimpArgs false
namespace Go.Proofs.YthcjfkljekdioaaGreatDoor
open Go Go.Fen Go.RowKit Go.ChangeShapes
namespace bulks
theorem C2y {H:Type} {d:DataW H} {l:List (DataW H)} (h:d ∈ l):Rows.uptoBulk d≤Rows.uptoBulkAll l:=by
 induction l with
 | nil=>cases h
 | cons x r ih =>
  simp only [Rows.uptoBulkAll]
  cases List.mem_cons.1 h with
  | inl e=>subst e;omega
  | inr e=>have:=ih e;omega
theorem bound {H:Type} {l:List (DataW H)} (hk:Rows.uptoSmall H l=true):Rows.uptoBulkAll l≤1048576:=by
 simpa [Rows.uptoSmall] using hk
theorem str_in {H:Type} {d:DataW H} {s:List UInt8} (h:∃ ds,d=.agg ds∧DataW.lit (.string s) ∈ ds):s.length+2≤Rows.uptoBulk d:=by
 obtain ⟨ds,rfl,hm⟩:=h
 have:=C2y hm
 simp only [Rows.uptoBulk] at this ⊢
 omega
end bulks
theorem C3z {h:Hp}:∀ q ∈ ([]:List Pers),q.p h:=fun _ h=>by cases h
theorem all_cons {h:Hp} {q:Pers} {Φ:List Pers} (h1:q.p h) (h2:∀ q ∈ Φ,q.p h):∀ q' ∈ q::Φ,q'.p h:=fun q' hq=>by
 rcases List.mem_cons.1 hq with rfl | hq
 ·exact h1
 ·exact h2 q' hq
def B5g:DataW Unit→Option Spn
 | .agg [.lit (.int .i64 a),.lit (.int .i64 b)]=>some ⟨a,b⟩
 | _=>none
theorem B0x (d:DataW Unit) (a:Spn) (h:C3y d a):B5g d=some a:=by
 obtain ⟨d0,d1,rfl,h0,h1⟩:=h
 unfold A7u at h0 h1
 subst h0 h1
 rfl
def A6u (h:Array Obj) (g:Nat) (cs:List Value):Array Obj:=h.modify g fun
 | .cells _ t fr=>.cells cs.toArray t fr
 | o=>o
mutual
def X1:DataW Unit→List Value
 | .agg ds=>A7b ds
 | .lit (.int k n)=>[.int k n]
 | .lit (.bool b)=>[.bool b]
 | .lit (.string s)=>[.string ⟨s.toArray⟩]
 | _=>[]
def A7b:List (DataW Unit)→List Value
 | []=>[]
 | d::r=>X1 d++A7b r
end
end Go.Proofs.YthcjfkljekdioaaGreatDoor
