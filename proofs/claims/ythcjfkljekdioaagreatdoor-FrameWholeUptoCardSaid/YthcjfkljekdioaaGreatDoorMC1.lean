import Derived.Test.YthcjfkljekdioaaGreatDoorRows
import Derived.Test.YthcjfkljekdioaaGreatDoorMA2
import Derived.Test.YthcjfkljekdioaaGreatDoorMB1
set_option linter.unusedVariables false
set_option linter.unusedSimpArgs false
set_option linter.unnecessarySimpa false
namespace Go.Proofs.YthcjfkljekdioaaGreatDoor
open Go Go.Fen
open Go.RowKit Go.ChangeShapes
def C6a (a:Spn):Prop:=A2i a.lo∧A2i a.hi
def C4p {H:Type} (d:DataW H) (a:Spn):Prop:=∃ d0 d1,d=.agg [d0,d1]∧A8a d0 a.lo∧A8a d1 a.hi
set_option maxRecDepth 100000 in
theorem C3o:Cod Tryz.prog 164 Spn C0 C4p (fun _ a=>C6a a):=fun {H enc w base sp held fuel cs x} h=>by
 obtain ⟨hl,n,ys,rfl,hx,hyl,hf⟩:=X8 Tryz.underlying164 h
 have hl':cs.length=2:=hl.trans (by kernel_rfl)
 obtain ⟨y0,e0,t0⟩:=hf 0 _ rfl
 obtain ⟨a0,c0,q0,p0⟩:=(S6 Tryz.underlying3) t0
 obtain ⟨y1,e1,t1⟩:=hf 1 _ rfl
 obtain ⟨a1,c1,q1,p1⟩:=(S6 Tryz.underlying3) t1
 have e:cs=_:=(List.drop_zero).symm.trans (H1 c0 (H1 c1 (List.drop_eq_nil_of_le (by omega:cs.length≤2)) (by kernel_rfl)) (by kernel_rfl))
 have hys:ys=[y0,y1]:=by
  match ys,hyl,e0,e1 with
  | [z0,z1],_,e0,e1=>simp at e0 e1;simp [e0,e1]
 rw [hys] at hx
 exact ⟨⟨a0,a1⟩,e,⟨_,_,hx,q0,q1⟩,p0,p1⟩
def C8r (a:Ar2):Prop:=A2i a.a∧A2i a.b
def C8m {H:Type} (d:DataW H) (a:Ar2):Prop:=∃ d0 d1,d=.agg [d0,d1]∧A8a d0 a.a∧A8a d1 a.b
set_option maxRecDepth 100000 in
theorem C8k:Cod Tryz.prog 70 Ar2 A9j C8m (fun _ a=>C8r a):=fun {H enc w base sp held fuel cs x} h=>by
 obtain ⟨hl,n,ys,rfl,hx,hyl,hf⟩:=B2s Tryz.underlying70 h
 have hl':cs.length=2:=hl.trans (by kernel_rfl)
 obtain ⟨y0,e0,t0⟩:=hf 0 (by decide)
 obtain ⟨a0,c0,q0,p0⟩:=(S6 Tryz.underlying3) t0
 obtain ⟨y1,e1,t1⟩:=hf 1 (by decide)
 obtain ⟨a1,c1,q1,p1⟩:=(S6 Tryz.underlying3) t1
 have e:cs=_:=(List.drop_zero).symm.trans (H1 c0 (H1 c1 (List.drop_eq_nil_of_le (by omega:cs.length≤2)) (by kernel_rfl)) (by kernel_rfl))
 have hys:ys=[y0,y1]:=by
  match ys,hyl,e0,e1 with
  | [z0,z1],_,e0,e1=>simp at e0 e1;simp [e0,e1]
 rw [hys] at hx
 exact ⟨⟨a0,a1⟩,e,⟨_,_,hx,q0,q1⟩,p0,p1⟩
def C4a (a:Col):Prop:=A2i a.kind∧A2i a.n
def C4i {H:Type} (d:DataW H) (a:Col):Prop:=∃ d0 d1,d=.agg [d0,d1]∧A8a d0 a.kind∧A8a d1 a.n
set_option maxRecDepth 100000 in
theorem C2t:Cod Tryz.prog 40 Col U9 C4i (fun _ a=>C4a a):=fun {H enc w base sp held fuel cs x} h=>by
 obtain ⟨hl,n,ys,rfl,hx,hyl,hf⟩:=X8 Tryz.underlying40 h
 have hl':cs.length=2:=hl.trans (by kernel_rfl)
 obtain ⟨y0,e0,t0⟩:=hf 0 _ rfl
 obtain ⟨a0,c0,q0,p0⟩:=(S6 Tryz.underlying3) t0
 obtain ⟨y1,e1,t1⟩:=hf 1 _ rfl
 obtain ⟨a1,c1,q1,p1⟩:=(S6 Tryz.underlying3) t1
 have e:cs=_:=(List.drop_zero).symm.trans (H1 c0 (H1 c1 (List.drop_eq_nil_of_le (by omega:cs.length≤2)) (by kernel_rfl)) (by kernel_rfl))
 have hys:ys=[y0,y1]:=by
  match ys,hyl,e0,e1 with
  | [z0,z1],_,e0,e1=>simp at e0 e1;simp [e0,e1]
 rw [hys] at hx
 exact ⟨⟨a0,a1⟩,e,⟨_,_,hx,q0,q1⟩,p0,p1⟩
def C8o (a:Sty):Prop:=A2i a.attr∧A2i a.under∧C4a a.fore∧C4a a.back∧C4a a.line
def C9h {H:Type} (d:DataW H) (a:Sty):Prop:=∃ d0 d1 d2 d3 d4,d=.agg [d0,d1,d2,d3,d4]∧A8a d0 a.attr∧A8a d1 a.under∧C4i d2 a.fore∧C4i d3 a.back∧C4i d4 a.line
set_option maxRecDepth 100000 in
theorem C8c:Cod Tryz.prog 42 Sty J9 C9h (fun _ a=>C8o a):=fun {H enc w base sp held fuel cs x} h=>by
 obtain ⟨hl,n,ys,rfl,hx,hyl,hf⟩:=X8 Tryz.underlying42 h
 have hl':cs.length=8:=hl.trans (by kernel_rfl)
 obtain ⟨y0,e0,t0⟩:=hf 0 _ rfl
 obtain ⟨a0,c0,q0,p0⟩:=(S6 Tryz.underlying3) t0
 obtain ⟨y1,e1,t1⟩:=hf 1 _ rfl
 obtain ⟨a1,c1,q1,p1⟩:=(S6 Tryz.underlying3) t1
 obtain ⟨y2,e2,t2⟩:=hf 2 _ rfl
 obtain ⟨a2,c2,q2,p2⟩:=C2t t2
 obtain ⟨y3,e3,t3⟩:=hf 3 _ rfl
 obtain ⟨a3,c3,q3,p3⟩:=C2t t3
 obtain ⟨y4,e4,t4⟩:=hf 4 _ rfl
 obtain ⟨a4,c4,q4,p4⟩:=C2t t4
 have e:cs=_:=(List.drop_zero).symm.trans (H1 c0 (H1 c1 (H1 c2 (H1 c3 (H1 c4 (List.drop_eq_nil_of_le (by omega:cs.length≤8)) (by kernel_rfl)) (by kernel_rfl)) (by kernel_rfl)) (by kernel_rfl)) (by kernel_rfl))
 have hys:ys=[y0,y1,y2,y3,y4]:=by
  match ys,hyl,e0,e1,e2,e3,e4 with
  | [z0,z1,z2,z3,z4],_,e0,e1,e2,e3,e4=>simp at e0 e1 e2 e3 e4;simp [e0,e1,e2,e3,e4]
 rw [hys] at hx
 exact ⟨⟨a0,a1,a2,a3,a4⟩,e,⟨_,_,_,_,_,hx,q0,q1,q2,q3,q4⟩,p0,p1,p2,p3,p4⟩
def C6o (a:Cel):Prop:=A2i a.base∧C8r a.marks∧A2i a.wide∧C8o a.sty
def C8p {H:Type} (d:DataW H) (a:Cel):Prop:=∃ d0 d1 d2 d3,d=.agg [d0,d1,d2,d3]∧A8a d0 a.base∧C8m d1 a.marks∧A8a d2 a.wide∧C9h d3 a.sty
set_option maxRecDepth 100000 in
theorem C7y:Cod Tryz.prog 72 Cel B3 C8p (fun _ a=>C6o a):=fun {H enc w base sp held fuel cs x} h=>by
 obtain ⟨hl,n,ys,rfl,hx,hyl,hf⟩:=X8 Tryz.underlying72 h
 have hl':cs.length=12:=hl.trans (by kernel_rfl)
 obtain ⟨y0,e0,t0⟩:=hf 0 _ rfl
 obtain ⟨a0,c0,q0,p0⟩:=(S6 Tryz.underlying3) t0
 obtain ⟨y1,e1,t1⟩:=hf 1 _ rfl
 obtain ⟨a1,c1,q1,p1⟩:=C8k t1
 obtain ⟨y2,e2,t2⟩:=hf 2 _ rfl
 obtain ⟨a2,c2,q2,p2⟩:=(S6 Tryz.underlying3) t2
 obtain ⟨y3,e3,t3⟩:=hf 3 _ rfl
 obtain ⟨a3,c3,q3,p3⟩:=C8c t3
 have e:cs=_:=(List.drop_zero).symm.trans (H1 c0 (H1 c1 (H1 c2 (H1 c3 (List.drop_eq_nil_of_le (by omega:cs.length≤12)) (by kernel_rfl)) (by kernel_rfl)) (by kernel_rfl)) (by kernel_rfl))
 have hys:ys=[y0,y1,y2,y3]:=by
  match ys,hyl,e0,e1,e2,e3 with
  | [z0,z1,z2,z3],_,e0,e1,e2,e3=>simp at e0 e1 e2 e3;simp [e0,e1,e2,e3]
 rw [hys] at hx
 exact ⟨⟨a0,a1,a2,a3⟩,e,⟨_,_,_,_,hx,q0,q1,q2,q3⟩,p0,p1,p2,p3⟩
def C9c (a:Plc):Prop:=A2i a.row∧A2i a.col
def C9t {H:Type} (d:DataW H) (a:Plc):Prop:=∃ d0 d1,d=.agg [d0,d1]∧A8a d0 a.row∧A8a d1 a.col
set_option maxRecDepth 100000 in
theorem C8w:Cod Tryz.prog 24 Plc I9 C9t (fun _ a=>C9c a):=fun {H enc w base sp held fuel cs x} h=>by
 obtain ⟨hl,n,ys,rfl,hx,hyl,hf⟩:=X8 Tryz.underlying24 h
 have hl':cs.length=2:=hl.trans (by kernel_rfl)
 obtain ⟨y0,e0,t0⟩:=hf 0 _ rfl
 obtain ⟨a0,c0,q0,p0⟩:=(S6 Tryz.underlying3) t0
 obtain ⟨y1,e1,t1⟩:=hf 1 _ rfl
 obtain ⟨a1,c1,q1,p1⟩:=(S6 Tryz.underlying3) t1
 have e:cs=_:=(List.drop_zero).symm.trans (H1 c0 (H1 c1 (List.drop_eq_nil_of_le (by omega:cs.length≤2)) (by kernel_rfl)) (by kernel_rfl))
 have hys:ys=[y0,y1]:=by
  match ys,hyl,e0,e1 with
  | [z0,z1],_,e0,e1=>simp at e0 e1;simp [e0,e1]
 rw [hys] at hx
 exact ⟨⟨a0,a1⟩,e,⟨_,_,hx,q0,q1⟩,p0,p1⟩
set_option maxRecDepth 100000 in
theorem C7p {H:Type} {enc:TypeId×Value→H} {w:World} {base:Nat} {sp:Nat→Bool} {held:Bool} {fuel:Nat} {cs:List Value} {x:DataW H×List MemPlace} (h:DataW.trod enc Tryz.prog w base sp held fuel 26 cs=some x) :
  ∃ (cols:Int) (rowsq:Option Addr) (rowsk:Nat) (rowsrs:List Slc) (rows:List (List Cel)) (cursor:Plc) (visible:Bool) (shape:Int) (title:List UInt8),cs=(R2 cols++([.slice rowsq rows.length rowsk]++(I9 cursor++(F9 visible++(R2 shape++(C5c title++[]))))))∧(A2i cols)∧(rows.length≤rowsk)∧(rowsk≤9223372036854775807)∧(C8 rowsrs rows)∧((sl B9 rowsq rowsrs).p (A8x w))∧((E7 B3 rowsrs rows).p (A8x w))∧(∀ xs ∈ rows,∀ a ∈ xs,C6o a)∧(C9c cursor)∧(A2i shape)∧(title.length≤9223372036854775807)∧(∃ ds,x.1=.agg ds∧DataW.lit (.string title) ∈ ds):=by
 obtain ⟨hl,n,ys,rfl,hx,hyl,hf⟩:=X8 Tryz.underlying26 h
 have hl':cs.length=7:=hl.trans (by kernel_rfl)
 obtain ⟨y0,e0,t0⟩:=hf 0 _ rfl
 obtain ⟨cols,c0,q0,p0⟩:=(S6 Tryz.underlying3) t0
 obtain ⟨y1,e1,t1⟩:=hf 1 _ rfl
 obtain ⟨rowsq,rowsk,rowsrs,rows,c1,g1_1,g1_2,g1_3,g1_4,g1_5,g1_6⟩:=C0s (c:=B3) (D:=C8p) (p:=fun _ a=>C6o a) C7y (sz:=12) (fun _=>rfl) (by kernel_rfl) (by decide) Tryz.underlying69 (by kernel_rfl) Tryz.underlying22 t1
 obtain ⟨y2,e2,t2⟩:=hf 2 _ rfl
 obtain ⟨cursor,c2,q2,p2⟩:=C8w t2
 obtain ⟨y3,e3,t3⟩:=hf 3 _ rfl
 obtain ⟨visible,c3,q3,p3⟩:=(C2a Tryz.underlying4) t3
 obtain ⟨y4,e4,t4⟩:=hf 4 _ rfl
 obtain ⟨shape,c4,q4,p4⟩:=(S6 Tryz.underlying3) t4
 obtain ⟨y5,e5,t5⟩:=hf 5 _ rfl
 obtain ⟨title,c5,q5,p5⟩:=(C4c Tryz.underlying9) t5
 exact ⟨cols,rowsq,rowsk,rowsrs,rows,cursor,visible,shape,title,(List.drop_zero).symm.trans (H1 c0 (H1 c1 (H1 c2 (H1 c3 (H1 c4 (H1 c5 (List.drop_eq_nil_of_le (by omega:cs.length≤7)) (by kernel_rfl)) (by kernel_rfl)) (by kernel_rfl)) (by kernel_rfl)) (by kernel_rfl)) (by kernel_rfl)),p0,g1_1,g1_2,g1_3,g1_4,g1_5,g1_6,p2,p4,p5,⟨_,hx,by rw [← show y5.1=DataW.lit (.string title) from q5];exact List.mem_map_of_mem (List.mem_of_getElem? e5)⟩⟩
end Go.Proofs.YthcjfkljekdioaaGreatDoor
set_option linter.unusedVariables false
set_option linter.unusedSimpArgs false
namespace Go.Proofs.YthcjfkljekdioaaGreatDoor
open Go Go.Fen Go.RowKit Go.ChangeShapes
namespace bulks
theorem C4w {H:Type} {d:DataW H} {l:List (DataW H)} (h:d ∈ l):Rows.uptoBulk d≤Rows.uptoBulkAll l:=by
 induction l with
 | nil=>cases h
 | cons x r ih =>
  simp only [Rows.uptoBulkAll]
  cases List.mem_cons.1 h with
  | inl e=>subst e;omega
  | inr e=>have:=ih e;omega
theorem bound {H:Type} {l:List (DataW H)} (hk:Rows.uptoSmall H l=true):Rows.uptoBulkAll l≤1048576:=by
 simpa [Rows.uptoSmall] using hk
theorem str_in {H:Type} {d:DataW H} {s:List UInt8} (h:∃ ds,d=.agg ds∧DataW.lit (.string s) ∈ ds):s.length+2≤Rows.uptoBulk d:=by
 obtain ⟨ds,rfl,hm⟩:=h
 have:=C4w hm
 simp only [Rows.uptoBulk] at this ⊢
 omega
end bulks
theorem C4e {h:Hp}:∀ q ∈ ([]:List Pers),q.p h:=fun _ h=>by cases h
theorem all_cons {h:Hp} {q:Pers} {Φ:List Pers} (h1:q.p h) (h2:∀ q ∈ Φ,q.p h):∀ q' ∈ q::Φ,q'.p h:=fun q' hq=>by
 rcases List.mem_cons.1 hq with rfl | hq
 ·exact h1
 ·exact h2 q' hq
def B5w:DataW Unit→Option Spn
 | .agg [.lit (.int .i64 a),.lit (.int .i64 b)]=>some ⟨a,b⟩
 | _=>none
theorem B1f (d:DataW Unit) (a:Spn) (h:C4p d a):B5w d=some a:=by
 obtain ⟨d0,d1,rfl,h0,h1⟩:=h
 unfold A8a at h0 h1
 subst h0 h1
 rfl
def A6y (h:Array Obj) (g:Nat) (cs:List Value):Array Obj:=h.modify g fun
 | .cells _ t fr=>.cells cs.toArray t fr
 | o=>o
mutual
def X4:DataW Unit→List Value
 | .agg ds=>A7q ds
 | .lit (.int k n)=>[.int k n]
 | .lit (.bool b)=>[.bool b]
 | .lit (.string s)=>[.string ⟨s.toArray⟩]
 | _=>[]
def A7q:List (DataW Unit)→List Value
 | []=>[]
 | d::r=>X4 d++A7q r
end
end Go.Proofs.YthcjfkljekdioaaGreatDoor
