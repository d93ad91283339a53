import Derived.Test.YthcjfkljekdioaaGreatDoorRows
import Derived.Test.YthcjfkljekdioaaGreatDoorMA2
import Derived.Test.YthcjfkljekdioaaGreatDoorMB1
set_option linter.unusedVariables false
set_option linter.unusedSimpArgs false
set_option linter.unnecessarySimpa false
namespace Go.Proofs.YthcjfkljekdioaaGreatDoor
open Go Go.Fen
open Go.RowKit Go.ChangeShapes
def D2n (a:Spn):Prop:=A1s a.lo∧A1s a.hi
def C8z {H:Type} (d:DataW H) (a:Spn):Prop:=∃ d0 d1,d=.agg [d0,d1]∧B1y d0 a.lo∧B1y d1 a.hi
set_option maxRecDepth 100000 in
theorem C7z:Cod Tryz.prog 164 Spn C4 C8z (fun _ a=>D2n a):=fun {H enc w base sp held fuel cs x} h=>by
 obtain ⟨hl,n,ys,rfl,hx,hyl,hf⟩:=Z2 Tryz.underlying164 h
 have hl':cs.length=2:=hl.trans (by kernel_rfl)
 obtain ⟨y0,e0,t0⟩:=hf 0 _ rfl
 obtain ⟨a0,c0,q0,p0⟩:=(U9 Tryz.underlying3) t0
 obtain ⟨y1,e1,t1⟩:=hf 1 _ rfl
 obtain ⟨a1,c1,q1,p1⟩:=(U9 Tryz.underlying3) t1
 have e:cs=_:=(List.drop_zero).symm.trans (G8 c0 (G8 c1 (List.drop_eq_nil_of_le (by omega:cs.length≤2)) (by kernel_rfl)) (by kernel_rfl))
 have hys:ys=[y0,y1]:=by
  match ys,hyl,e0,e1 with
  | [z0,z1],_,e0,e1=>simp at e0 e1;simp [e0,e1]
 rw [hys] at hx
 exact ⟨⟨a0,a1⟩,e,⟨_,_,hx,q0,q1⟩,p0,p1⟩
def D4i (a:Ar2):Prop:=A1s a.a∧A1s a.b
def D4a {H:Type} (d:DataW H) (a:Ar2):Prop:=∃ d0 d1,d=.agg [d0,d1]∧B1y d0 a.a∧B1y d1 a.b
set_option maxRecDepth 100000 in
theorem D3k:Cod Tryz.prog 70 Ar2 R3 D4a (fun _ a=>D4i a):=fun {H enc w base sp held fuel cs x} h=>by
 obtain ⟨hl,n,ys,rfl,hx,hyl,hf⟩:=B4v Tryz.underlying70 h
 have hl':cs.length=2:=hl.trans (by kernel_rfl)
 obtain ⟨y0,e0,t0⟩:=hf 0 (by decide)
 obtain ⟨a0,c0,q0,p0⟩:=(U9 Tryz.underlying3) t0
 obtain ⟨y1,e1,t1⟩:=hf 1 (by decide)
 obtain ⟨a1,c1,q1,p1⟩:=(U9 Tryz.underlying3) t1
 have e:cs=_:=(List.drop_zero).symm.trans (G8 c0 (G8 c1 (List.drop_eq_nil_of_le (by omega:cs.length≤2)) (by kernel_rfl)) (by kernel_rfl))
 have hys:ys=[y0,y1]:=by
  match ys,hyl,e0,e1 with
  | [z0,z1],_,e0,e1=>simp at e0 e1;simp [e0,e1]
 rw [hys] at hx
 exact ⟨⟨a0,a1⟩,e,⟨_,_,hx,q0,q1⟩,p0,p1⟩
def C9d (a:Col):Prop:=A1s a.kind∧A1s a.n
def D0f {H:Type} (d:DataW H) (a:Col):Prop:=∃ d0 d1,d=.agg [d0,d1]∧B1y d0 a.kind∧B1y d1 a.n
set_option maxRecDepth 100000 in
theorem C6q:Cod Tryz.prog 40 Col U6 D0f (fun _ a=>C9d a):=fun {H enc w base sp held fuel cs x} h=>by
 obtain ⟨hl,n,ys,rfl,hx,hyl,hf⟩:=Z2 Tryz.underlying40 h
 have hl':cs.length=2:=hl.trans (by kernel_rfl)
 obtain ⟨y0,e0,t0⟩:=hf 0 _ rfl
 obtain ⟨a0,c0,q0,p0⟩:=(U9 Tryz.underlying3) t0
 obtain ⟨y1,e1,t1⟩:=hf 1 _ rfl
 obtain ⟨a1,c1,q1,p1⟩:=(U9 Tryz.underlying3) t1
 have e:cs=_:=(List.drop_zero).symm.trans (G8 c0 (G8 c1 (List.drop_eq_nil_of_le (by omega:cs.length≤2)) (by kernel_rfl)) (by kernel_rfl))
 have hys:ys=[y0,y1]:=by
  match ys,hyl,e0,e1 with
  | [z0,z1],_,e0,e1=>simp at e0 e1;simp [e0,e1]
 rw [hys] at hx
 exact ⟨⟨a0,a1⟩,e,⟨_,_,hx,q0,q1⟩,p0,p1⟩
def D4t (a:Sty):Prop:=A1s a.attr∧A1s a.under∧C9d a.fore∧C9d a.back∧C9d a.line
def D3z {H:Type} (d:DataW H) (a:Sty):Prop:=∃ d0 d1 d2 d3 d4,d=.agg [d0,d1,d2,d3,d4]∧B1y d0 a.attr∧B1y d1 a.under∧D0f d2 a.fore∧D0f d3 a.back∧D0f d4 a.line
set_option maxRecDepth 100000 in
theorem D4k:Cod Tryz.prog 42 Sty J8 D3z (fun _ a=>D4t a):=fun {H enc w base sp held fuel cs x} h=>by
 obtain ⟨hl,n,ys,rfl,hx,hyl,hf⟩:=Z2 Tryz.underlying42 h
 have hl':cs.length=8:=hl.trans (by kernel_rfl)
 obtain ⟨y0,e0,t0⟩:=hf 0 _ rfl
 obtain ⟨a0,c0,q0,p0⟩:=(U9 Tryz.underlying3) t0
 obtain ⟨y1,e1,t1⟩:=hf 1 _ rfl
 obtain ⟨a1,c1,q1,p1⟩:=(U9 Tryz.underlying3) t1
 obtain ⟨y2,e2,t2⟩:=hf 2 _ rfl
 obtain ⟨a2,c2,q2,p2⟩:=C6q t2
 obtain ⟨y3,e3,t3⟩:=hf 3 _ rfl
 obtain ⟨a3,c3,q3,p3⟩:=C6q t3
 obtain ⟨y4,e4,t4⟩:=hf 4 _ rfl
 obtain ⟨a4,c4,q4,p4⟩:=C6q t4
 have e:cs=_:=(List.drop_zero).symm.trans (G8 c0 (G8 c1 (G8 c2 (G8 c3 (G8 c4 (List.drop_eq_nil_of_le (by omega:cs.length≤8)) (by kernel_rfl)) (by kernel_rfl)) (by kernel_rfl)) (by kernel_rfl)) (by kernel_rfl))
 have hys:ys=[y0,y1,y2,y3,y4]:=by
  match ys,hyl,e0,e1,e2,e3,e4 with
  | [z0,z1,z2,z3,z4],_,e0,e1,e2,e3,e4=>simp at e0 e1 e2 e3 e4;simp [e0,e1,e2,e3,e4]
 rw [hys] at hx
 exact ⟨⟨a0,a1,a2,a3,a4⟩,e,⟨_,_,_,_,_,hx,q0,q1,q2,q3,q4⟩,p0,p1,p2,p3,p4⟩
def D2t (a:Cel):Prop:=A1s a.base∧D4i a.marks∧A1s a.wide∧D4t a.sty
def D3i {H:Type} (d:DataW H) (a:Cel):Prop:=∃ d0 d1 d2 d3,d=.agg [d0,d1,d2,d3]∧B1y d0 a.base∧D4a d1 a.marks∧B1y d2 a.wide∧D3z d3 a.sty
set_option maxRecDepth 100000 in
theorem D4q:Cod Tryz.prog 72 Cel B3 D3i (fun _ a=>D2t a):=fun {H enc w base sp held fuel cs x} h=>by
 obtain ⟨hl,n,ys,rfl,hx,hyl,hf⟩:=Z2 Tryz.underlying72 h
 have hl':cs.length=12:=hl.trans (by kernel_rfl)
 obtain ⟨y0,e0,t0⟩:=hf 0 _ rfl
 obtain ⟨a0,c0,q0,p0⟩:=(U9 Tryz.underlying3) t0
 obtain ⟨y1,e1,t1⟩:=hf 1 _ rfl
 obtain ⟨a1,c1,q1,p1⟩:=D3k t1
 obtain ⟨y2,e2,t2⟩:=hf 2 _ rfl
 obtain ⟨a2,c2,q2,p2⟩:=(U9 Tryz.underlying3) t2
 obtain ⟨y3,e3,t3⟩:=hf 3 _ rfl
 obtain ⟨a3,c3,q3,p3⟩:=D4k t3
 have e:cs=_:=(List.drop_zero).symm.trans (G8 c0 (G8 c1 (G8 c2 (G8 c3 (List.drop_eq_nil_of_le (by omega:cs.length≤12)) (by kernel_rfl)) (by kernel_rfl)) (by kernel_rfl)) (by kernel_rfl))
 have hys:ys=[y0,y1,y2,y3]:=by
  match ys,hyl,e0,e1,e2,e3 with
  | [z0,z1,z2,z3],_,e0,e1,e2,e3=>simp at e0 e1 e2 e3;simp [e0,e1,e2,e3]
 rw [hys] at hx
 exact ⟨⟨a0,a1,a2,a3⟩,e,⟨_,_,_,_,hx,q0,q1,q2,q3⟩,p0,p1,p2,p3⟩
def D4r (a:Plc):Prop:=A1s a.row∧A1s a.col
def D5f {H:Type} (d:DataW H) (a:Plc):Prop:=∃ d0 d1,d=.agg [d0,d1]∧B1y d0 a.row∧B1y d1 a.col
set_option maxRecDepth 100000 in
theorem D4p:Cod Tryz.prog 24 Plc K6 D5f (fun _ a=>D4r a):=fun {H enc w base sp held fuel cs x} h=>by
 obtain ⟨hl,n,ys,rfl,hx,hyl,hf⟩:=Z2 Tryz.underlying24 h
 have hl':cs.length=2:=hl.trans (by kernel_rfl)
 obtain ⟨y0,e0,t0⟩:=hf 0 _ rfl
 obtain ⟨a0,c0,q0,p0⟩:=(U9 Tryz.underlying3) t0
 obtain ⟨y1,e1,t1⟩:=hf 1 _ rfl
 obtain ⟨a1,c1,q1,p1⟩:=(U9 Tryz.underlying3) t1
 have e:cs=_:=(List.drop_zero).symm.trans (G8 c0 (G8 c1 (List.drop_eq_nil_of_le (by omega:cs.length≤2)) (by kernel_rfl)) (by kernel_rfl))
 have hys:ys=[y0,y1]:=by
  match ys,hyl,e0,e1 with
  | [z0,z1],_,e0,e1=>simp at e0 e1;simp [e0,e1]
 rw [hys] at hx
 exact ⟨⟨a0,a1⟩,e,⟨_,_,hx,q0,q1⟩,p0,p1⟩
set_option maxRecDepth 100000 in
theorem D1n {H:Type} {enc:TypeId×Value→H} {w:World} {base:Nat} {sp:Nat→Bool} {held:Bool} {fuel:Nat} {cs:List Value} {x:DataW H×List MemPlace} (h:DataW.trod enc Tryz.prog w base sp held fuel 26 cs=some x) :
  ∃ (cols:Int) (rowsq:Option Addr) (rowsk:Nat) (rowsrs:List Slc) (rows:List (List Cel)) (cursor:Plc) (visible:Bool) (shape:Int) (title:List UInt8),cs=(K5 cols++([.slice rowsq rows.length rowsk]++(K6 cursor++(H1 visible++(K5 shape++(D1k title++[]))))))∧(A1s cols)∧(rows.length≤rowsk)∧(rowsk≤9223372036854775807)∧(C8 rowsrs rows)∧((sl C3 rowsq rowsrs).p (B2u w))∧((F6 B3 rowsrs rows).p (B2u w))∧(∀ xs ∈ rows,∀ a ∈ xs,D2t a)∧(D4r cursor)∧(A1s shape)∧(title.length≤9223372036854775807)∧(∃ ds,x.1=.agg ds∧DataW.lit (.string title) ∈ ds):=by
 obtain ⟨hl,n,ys,rfl,hx,hyl,hf⟩:=Z2 Tryz.underlying26 h
 have hl':cs.length=7:=hl.trans (by kernel_rfl)
 obtain ⟨y0,e0,t0⟩:=hf 0 _ rfl
 obtain ⟨cols,c0,q0,p0⟩:=(U9 Tryz.underlying3) t0
 obtain ⟨y1,e1,t1⟩:=hf 1 _ rfl
 obtain ⟨rowsq,rowsk,rowsrs,rows,c1,g1_1,g1_2,g1_3,g1_4,g1_5,g1_6⟩:=C5k (c:=B3) (D:=D3i) (p:=fun _ a=>D2t a) D4q (sz:=12) (fun _=>rfl) (by kernel_rfl) (by decide) Tryz.underlying69 (by kernel_rfl) Tryz.underlying22 t1
 obtain ⟨y2,e2,t2⟩:=hf 2 _ rfl
 obtain ⟨cursor,c2,q2,p2⟩:=D4p t2
 obtain ⟨y3,e3,t3⟩:=hf 3 _ rfl
 obtain ⟨visible,c3,q3,p3⟩:=(C7q Tryz.underlying4) t3
 obtain ⟨y4,e4,t4⟩:=hf 4 _ rfl
 obtain ⟨shape,c4,q4,p4⟩:=(U9 Tryz.underlying3) t4
 obtain ⟨y5,e5,t5⟩:=hf 5 _ rfl
 obtain ⟨title,c5,q5,p5⟩:=(C9x Tryz.underlying9) t5
 exact ⟨cols,rowsq,rowsk,rowsrs,rows,cursor,visible,shape,title,(List.drop_zero).symm.trans (G8 c0 (G8 c1 (G8 c2 (G8 c3 (G8 c4 (G8 c5 (List.drop_eq_nil_of_le (by omega:cs.length≤7)) (by kernel_rfl)) (by kernel_rfl)) (by kernel_rfl)) (by kernel_rfl)) (by kernel_rfl)) (by kernel_rfl)),p0,g1_1,g1_2,g1_3,g1_4,g1_5,g1_6,p2,p4,p5,⟨_,hx,by rw [← show y5.1=DataW.lit (.string title) from q5];exact List.mem_map_of_mem (List.mem_of_getElem? e5)⟩⟩
set_option maxRecDepth 100000 in
theorem D2e {H:Type} {enc:TypeId×Value→H} {w:World} {base:Nat} {sp:Nat→Bool} {held:Bool} {fuel:Nat} {cs:List Value} {x:DataW H×List MemPlace} (h:DataW.trod enc Tryz.prog w base sp held fuel 61 cs=some x) :
  ∃ (row:Int) (col:Int) (rows:Int) (cols:Int),cs=(K5 row++(K5 col++(K5 rows++(K5 cols++[]))))∧(A1s row)∧(A1s col)∧(A1s rows)∧(A1s cols):=by
 obtain ⟨hl,n,ys,rfl,hx,hyl,hf⟩:=Z2 Tryz.underlying61 h
 have hl':cs.length=4:=hl.trans (by kernel_rfl)
 obtain ⟨y0,e0,t0⟩:=hf 0 _ rfl
 obtain ⟨row,c0,q0,p0⟩:=(U9 Tryz.underlying3) t0
 obtain ⟨y1,e1,t1⟩:=hf 1 _ rfl
 obtain ⟨col,c1,q1,p1⟩:=(U9 Tryz.underlying3) t1
 obtain ⟨y2,e2,t2⟩:=hf 2 _ rfl
 obtain ⟨rows,c2,q2,p2⟩:=(U9 Tryz.underlying3) t2
 obtain ⟨y3,e3,t3⟩:=hf 3 _ rfl
 obtain ⟨cols,c3,q3,p3⟩:=(U9 Tryz.underlying3) t3
 exact ⟨row,col,rows,cols,(List.drop_zero).symm.trans (G8 c0 (G8 c1 (G8 c2 (G8 c3 (List.drop_eq_nil_of_le (by omega:cs.length≤4)) (by kernel_rfl)) (by kernel_rfl)) (by kernel_rfl)) (by kernel_rfl)),p0,p1,p2,p3⟩
end Go.Proofs.YthcjfkljekdioaaGreatDoor
set_option linter.unusedVariables false
set_option linter.unusedSimpArgs false
namespace Go.Proofs.YthcjfkljekdioaaGreatDoor
open Go Go.Fen Go.RowKit Go.ChangeShapes
namespace bulks
theorem D0p {H:Type} {d:DataW H} {l:List (DataW H)} (h:d ∈ l):Rows.uptoBulk d≤Rows.uptoBulkAll l:=by
 induction l with
 | nil=>cases h
 | cons x r ih =>
  simp only [Rows.uptoBulkAll]
  cases List.mem_cons.1 h with
  | inl e=>subst e;omega
  | inr e=>have:=ih e;omega
theorem bound {H:Type} {l:List (DataW H)} (hk:Rows.uptoSmall H l=true):Rows.uptoBulkAll l≤1048576:=by
 simpa [Rows.uptoSmall] using hk
theorem str_in {H:Type} {d:DataW H} {s:List UInt8} (h:∃ ds,d=.agg ds∧DataW.lit (.string s) ∈ ds):s.length+2≤Rows.uptoBulk d:=by
 obtain ⟨ds,rfl,hm⟩:=h
 have:=D0p hm
 simp only [Rows.uptoBulk] at this ⊢
 omega
end bulks
theorem C9h {h:Hp}:∀ q ∈ ([]:List Pers),q.p h:=fun _ h=>by cases h
theorem all_cons {h:Hp} {q:Pers} {Φ:List Pers} (h1:q.p h) (h2:∀ q ∈ Φ,q.p h):∀ q' ∈ q::Φ,q'.p h:=fun q' hq=>by
 rcases List.mem_cons.1 hq with rfl | hq
 ·exact h1
 ·exact h2 q' hq
def B9r:DataW Unit→Option Spn
 | .agg [.lit (.int .i64 a),.lit (.int .i64 b)]=>some ⟨a,b⟩
 | _=>none
theorem B6g (d:DataW Unit) (a:Spn) (h:C8z d a):B9r d=some a:=by
 obtain ⟨d0,d1,rfl,h0,h1⟩:=h
 unfold B1y at h0 h1
 subst h0 h1
 rfl
def B0c (h:Array Obj) (g:Nat) (cs:List Value):Array Obj:=h.modify g fun
 | .cells _ t fr=>.cells cs.toArray t fr
 | o=>o
mutual
def A1m:DataW Unit→List Value
 | .agg ds=>B1l ds
 | .lit (.int k n)=>[.int k n]
 | .lit (.bool b)=>[.bool b]
 | .lit (.string s)=>[.string ⟨s.toArray⟩]
 | _=>[]
def B1l:List (DataW Unit)→List Value
 | []=>[]
 | d::r=>A1m d++B1l r
end
end Go.Proofs.YthcjfkljekdioaaGreatDoor
