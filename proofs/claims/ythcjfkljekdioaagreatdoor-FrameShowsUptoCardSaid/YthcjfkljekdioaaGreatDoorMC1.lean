import Derived.Test.YthcjfkljekdioaaGreatDoorRows
import Derived.Test.YthcjfkljekdioaaGreatDoorMA2
import Derived.Test.YthcjfkljekdioaaGreatDoorMB1
set_option linter.unusedVariables false
set_option linter.unusedSimpArgs false
set_option linter.unnecessarySimpa false
namespace Go.Proofs.YthcjfkljekdioaaGreatDoor
open Go Go.Fen
open Go.RowKit Go.ChangeShapes
def D4f (a:Spn):Prop:=A5g a.lo∧A5g a.hi
def D1y {H:Type} (d:DataW H) (a:Spn):Prop:=∃ d0 d1,d=.agg [d0,d1]∧B2r d0 a.lo∧B2r d1 a.hi
set_option maxRecDepth 100000 in
theorem C9u:Cod Tryz.prog 164 Spn C0 D1y (fun _ a=>D4f a):=fun {H enc w base sp held fuel cs x} h=>by
 obtain ⟨hl,n,ys,rfl,hx,hyl,hf⟩:=A1r Tryz.underlying164 h
 have hl':cs.length=2:=hl.trans (by kernel_rfl)
 obtain ⟨y0,e0,t0⟩:=hf 0 _ rfl
 obtain ⟨a0,c0,q0,p0⟩:=(A0e Tryz.underlying3) t0
 obtain ⟨y1,e1,t1⟩:=hf 1 _ rfl
 obtain ⟨a1,c1,q1,p1⟩:=(A0e Tryz.underlying3) t1
 have e:cs=_:=(List.drop_zero).symm.trans (I2 c0 (I2 c1 (List.drop_eq_nil_of_le (by omega:cs.length≤2)) (by kernel_rfl)) (by kernel_rfl))
 have hys:ys=[y0,y1]:=by
  match ys,hyl,e0,e1 with
  | [z0,z1],_,e0,e1=>simp at e0 e1;simp [e0,e1]
 rw [hys] at hx
 exact ⟨⟨a0,a1⟩,e,⟨_,_,hx,q0,q1⟩,p0,p1⟩
def D5j (a:Ar2):Prop:=A5g a.a∧A5g a.b
def D4o {H:Type} (d:DataW H) (a:Ar2):Prop:=∃ d0 d1,d=.agg [d0,d1]∧B2r d0 a.a∧B2r d1 a.b
set_option maxRecDepth 100000 in
theorem D5d:Cod Tryz.prog 70 Ar2 R2 D4o (fun _ a=>D5j a):=fun {H enc w base sp held fuel cs x} h=>by
 obtain ⟨hl,n,ys,rfl,hx,hyl,hf⟩:=B6c Tryz.underlying70 h
 have hl':cs.length=2:=hl.trans (by kernel_rfl)
 obtain ⟨y0,e0,t0⟩:=hf 0 (by decide)
 obtain ⟨a0,c0,q0,p0⟩:=(A0e Tryz.underlying3) t0
 obtain ⟨y1,e1,t1⟩:=hf 1 (by decide)
 obtain ⟨a1,c1,q1,p1⟩:=(A0e Tryz.underlying3) t1
 have e:cs=_:=(List.drop_zero).symm.trans (I2 c0 (I2 c1 (List.drop_eq_nil_of_le (by omega:cs.length≤2)) (by kernel_rfl)) (by kernel_rfl))
 have hys:ys=[y0,y1]:=by
  match ys,hyl,e0,e1 with
  | [z0,z1],_,e0,e1=>simp at e0 e1;simp [e0,e1]
 rw [hys] at hx
 exact ⟨⟨a0,a1⟩,e,⟨_,_,hx,q0,q1⟩,p0,p1⟩
def D1m (a:Col):Prop:=A5g a.kind∧A5g a.n
def D0o {H:Type} (d:DataW H) (a:Col):Prop:=∃ d0 d1,d=.agg [d0,d1]∧B2r d0 a.kind∧B2r d1 a.n
set_option maxRecDepth 100000 in
theorem C9e:Cod Tryz.prog 40 Col U8 D0o (fun _ a=>D1m a):=fun {H enc w base sp held fuel cs x} h=>by
 obtain ⟨hl,n,ys,rfl,hx,hyl,hf⟩:=A1r Tryz.underlying40 h
 have hl':cs.length=2:=hl.trans (by kernel_rfl)
 obtain ⟨y0,e0,t0⟩:=hf 0 _ rfl
 obtain ⟨a0,c0,q0,p0⟩:=(A0e Tryz.underlying3) t0
 obtain ⟨y1,e1,t1⟩:=hf 1 _ rfl
 obtain ⟨a1,c1,q1,p1⟩:=(A0e Tryz.underlying3) t1
 have e:cs=_:=(List.drop_zero).symm.trans (I2 c0 (I2 c1 (List.drop_eq_nil_of_le (by omega:cs.length≤2)) (by kernel_rfl)) (by kernel_rfl))
 have hys:ys=[y0,y1]:=by
  match ys,hyl,e0,e1 with
  | [z0,z1],_,e0,e1=>simp at e0 e1;simp [e0,e1]
 rw [hys] at hx
 exact ⟨⟨a0,a1⟩,e,⟨_,_,hx,q0,q1⟩,p0,p1⟩
def D5c (a:Sty):Prop:=A5g a.attr∧A5g a.under∧D1m a.fore∧D1m a.back∧D1m a.line
def D5b {H:Type} (d:DataW H) (a:Sty):Prop:=∃ d0 d1 d2 d3 d4,d=.agg [d0,d1,d2,d3,d4]∧B2r d0 a.attr∧B2r d1 a.under∧D0o d2 a.fore∧D0o d3 a.back∧D0o d4 a.line
set_option maxRecDepth 100000 in
theorem D5y:Cod Tryz.prog 42 Sty G4 D5b (fun _ a=>D5c a):=fun {H enc w base sp held fuel cs x} h=>by
 obtain ⟨hl,n,ys,rfl,hx,hyl,hf⟩:=A1r Tryz.underlying42 h
 have hl':cs.length=8:=hl.trans (by kernel_rfl)
 obtain ⟨y0,e0,t0⟩:=hf 0 _ rfl
 obtain ⟨a0,c0,q0,p0⟩:=(A0e Tryz.underlying3) t0
 obtain ⟨y1,e1,t1⟩:=hf 1 _ rfl
 obtain ⟨a1,c1,q1,p1⟩:=(A0e Tryz.underlying3) t1
 obtain ⟨y2,e2,t2⟩:=hf 2 _ rfl
 obtain ⟨a2,c2,q2,p2⟩:=C9e t2
 obtain ⟨y3,e3,t3⟩:=hf 3 _ rfl
 obtain ⟨a3,c3,q3,p3⟩:=C9e t3
 obtain ⟨y4,e4,t4⟩:=hf 4 _ rfl
 obtain ⟨a4,c4,q4,p4⟩:=C9e t4
 have e:cs=_:=(List.drop_zero).symm.trans (I2 c0 (I2 c1 (I2 c2 (I2 c3 (I2 c4 (List.drop_eq_nil_of_le (by omega:cs.length≤8)) (by kernel_rfl)) (by kernel_rfl)) (by kernel_rfl)) (by kernel_rfl)) (by kernel_rfl))
 have hys:ys=[y0,y1,y2,y3,y4]:=by
  match ys,hyl,e0,e1,e2,e3,e4 with
  | [z0,z1,z2,z3,z4],_,e0,e1,e2,e3,e4=>simp at e0 e1 e2 e3 e4;simp [e0,e1,e2,e3,e4]
 rw [hys] at hx
 exact ⟨⟨a0,a1,a2,a3,a4⟩,e,⟨_,_,_,_,_,hx,q0,q1,q2,q3,q4⟩,p0,p1,p2,p3,p4⟩
def D2y (a:Cel):Prop:=A5g a.base∧D5j a.marks∧A5g a.wide∧D5c a.sty
def D4v {H:Type} (d:DataW H) (a:Cel):Prop:=∃ d0 d1 d2 d3,d=.agg [d0,d1,d2,d3]∧B2r d0 a.base∧D4o d1 a.marks∧B2r d2 a.wide∧D5b d3 a.sty
set_option maxRecDepth 100000 in
theorem D5o:Cod Tryz.prog 72 Cel B4 D4v (fun _ a=>D2y a):=fun {H enc w base sp held fuel cs x} h=>by
 obtain ⟨hl,n,ys,rfl,hx,hyl,hf⟩:=A1r Tryz.underlying72 h
 have hl':cs.length=12:=hl.trans (by kernel_rfl)
 obtain ⟨y0,e0,t0⟩:=hf 0 _ rfl
 obtain ⟨a0,c0,q0,p0⟩:=(A0e Tryz.underlying3) t0
 obtain ⟨y1,e1,t1⟩:=hf 1 _ rfl
 obtain ⟨a1,c1,q1,p1⟩:=D5d t1
 obtain ⟨y2,e2,t2⟩:=hf 2 _ rfl
 obtain ⟨a2,c2,q2,p2⟩:=(A0e Tryz.underlying3) t2
 obtain ⟨y3,e3,t3⟩:=hf 3 _ rfl
 obtain ⟨a3,c3,q3,p3⟩:=D5y t3
 have e:cs=_:=(List.drop_zero).symm.trans (I2 c0 (I2 c1 (I2 c2 (I2 c3 (List.drop_eq_nil_of_le (by omega:cs.length≤12)) (by kernel_rfl)) (by kernel_rfl)) (by kernel_rfl)) (by kernel_rfl))
 have hys:ys=[y0,y1,y2,y3]:=by
  match ys,hyl,e0,e1,e2,e3 with
  | [z0,z1,z2,z3],_,e0,e1,e2,e3=>simp at e0 e1 e2 e3;simp [e0,e1,e2,e3]
 rw [hys] at hx
 exact ⟨⟨a0,a1,a2,a3⟩,e,⟨_,_,_,_,hx,q0,q1,q2,q3⟩,p0,p1,p2,p3⟩
def D6b (a:Plc):Prop:=A5g a.row∧A5g a.col
def D7b {H:Type} (d:DataW H) (a:Plc):Prop:=∃ d0 d1,d=.agg [d0,d1]∧B2r d0 a.row∧B2r d1 a.col
set_option maxRecDepth 100000 in
theorem D5i:Cod Tryz.prog 24 Plc K9 D7b (fun _ a=>D6b a):=fun {H enc w base sp held fuel cs x} h=>by
 obtain ⟨hl,n,ys,rfl,hx,hyl,hf⟩:=A1r Tryz.underlying24 h
 have hl':cs.length=2:=hl.trans (by kernel_rfl)
 obtain ⟨y0,e0,t0⟩:=hf 0 _ rfl
 obtain ⟨a0,c0,q0,p0⟩:=(A0e Tryz.underlying3) t0
 obtain ⟨y1,e1,t1⟩:=hf 1 _ rfl
 obtain ⟨a1,c1,q1,p1⟩:=(A0e Tryz.underlying3) t1
 have e:cs=_:=(List.drop_zero).symm.trans (I2 c0 (I2 c1 (List.drop_eq_nil_of_le (by omega:cs.length≤2)) (by kernel_rfl)) (by kernel_rfl))
 have hys:ys=[y0,y1]:=by
  match ys,hyl,e0,e1 with
  | [z0,z1],_,e0,e1=>simp at e0 e1;simp [e0,e1]
 rw [hys] at hx
 exact ⟨⟨a0,a1⟩,e,⟨_,_,hx,q0,q1⟩,p0,p1⟩
set_option maxRecDepth 100000 in
theorem D2x {H:Type} {enc:TypeId×Value→H} {w:World} {base:Nat} {sp:Nat→Bool} {held:Bool} {fuel:Nat} {cs:List Value} {x:DataW H×List MemPlace} (h:DataW.trod enc Tryz.prog w base sp held fuel 26 cs=some x) :
  ∃ (cols:Int) (rowsq:Option Addr) (rowsk:Nat) (rowsrs:List Slc) (rows:List (List Cel)) (cursor:Plc) (visible:Bool) (shape:Int) (title:List UInt8),cs=(L4 cols++([.slice rowsq rows.length rowsk]++(K9 cursor++(D3 visible++(L4 shape++(D3v title++[]))))))∧(A5g cols)∧(rows.length≤rowsk)∧(rowsk≤9223372036854775807)∧(D0 rowsrs rows)∧((sl C7 rowsq rowsrs).p (B3k w))∧((H0 B4 rowsrs rows).p (B3k w))∧(∀ xs ∈ rows,∀ a ∈ xs,D2y a)∧(D6b cursor)∧(A5g shape)∧(title.length≤9223372036854775807)∧(∃ ds,x.1=.agg ds∧DataW.lit (.string title) ∈ ds):=by
 obtain ⟨hl,n,ys,rfl,hx,hyl,hf⟩:=A1r Tryz.underlying26 h
 have hl':cs.length=7:=hl.trans (by kernel_rfl)
 obtain ⟨y0,e0,t0⟩:=hf 0 _ rfl
 obtain ⟨cols,c0,q0,p0⟩:=(A0e Tryz.underlying3) t0
 obtain ⟨y1,e1,t1⟩:=hf 1 _ rfl
 obtain ⟨rowsq,rowsk,rowsrs,rows,c1,g1_1,g1_2,g1_3,g1_4,g1_5,g1_6⟩:=C7i (c:=B4) (D:=D4v) (p:=fun _ a=>D2y a) D5o (sz:=12) (fun _=>rfl) (by kernel_rfl) (by decide) Tryz.underlying69 (by kernel_rfl) Tryz.underlying22 t1
 obtain ⟨y2,e2,t2⟩:=hf 2 _ rfl
 obtain ⟨cursor,c2,q2,p2⟩:=D5i t2
 obtain ⟨y3,e3,t3⟩:=hf 3 _ rfl
 obtain ⟨visible,c3,q3,p3⟩:=(C8k Tryz.underlying4) t3
 obtain ⟨y4,e4,t4⟩:=hf 4 _ rfl
 obtain ⟨shape,c4,q4,p4⟩:=(A0e Tryz.underlying3) t4
 obtain ⟨y5,e5,t5⟩:=hf 5 _ rfl
 obtain ⟨title,c5,q5,p5⟩:=(D1e Tryz.underlying9) t5
 exact ⟨cols,rowsq,rowsk,rowsrs,rows,cursor,visible,shape,title,(List.drop_zero).symm.trans (I2 c0 (I2 c1 (I2 c2 (I2 c3 (I2 c4 (I2 c5 (List.drop_eq_nil_of_le (by omega:cs.length≤7)) (by kernel_rfl)) (by kernel_rfl)) (by kernel_rfl)) (by kernel_rfl)) (by kernel_rfl)) (by kernel_rfl)),p0,g1_1,g1_2,g1_3,g1_4,g1_5,g1_6,p2,p4,p5,⟨_,hx,by rw [← show y5.1=DataW.lit (.string title) from q5];exact List.mem_map_of_mem (List.mem_of_getElem? e5)⟩⟩
end Go.Proofs.YthcjfkljekdioaaGreatDoor
set_option linter.unusedVariables false
set_option linter.unusedSimpArgs false
namespace Go.Proofs.YthcjfkljekdioaaGreatDoor
open Go Go.Fen Go.RowKit Go.ChangeShapes
namespace bulks
theorem D1k {H:Type} {d:DataW H} {l:List (DataW H)} (h:d ∈ l):Rows.uptoBulk d≤Rows.uptoBulkAll l:=by
 induction l with
 | nil=>cases h
 | cons x r ih =>
  simp only [Rows.uptoBulkAll]
  cases List.mem_cons.1 h with
  | inl e=>subst e;omega
  | inr e=>have:=ih e;omega
theorem bound {H:Type} {l:List (DataW H)} (hk:Rows.uptoSmall H l=true):Rows.uptoBulkAll l≤1048576:=by
 simpa [Rows.uptoSmall] using hk
theorem str_in {H:Type} {d:DataW H} {s:List UInt8} (h:∃ ds,d=.agg ds∧DataW.lit (.string s) ∈ ds):s.length+2≤Rows.uptoBulk d:=by
 obtain ⟨ds,rfl,hm⟩:=h
 have:=D1k hm
 simp only [Rows.uptoBulk] at this ⊢
 omega
end bulks
theorem D0z {h:Hp}:∀ q ∈ ([]:List Pers),q.p h:=fun _ h=>by cases h
theorem all_cons {h:Hp} {q:Pers} {Φ:List Pers} (h1:q.p h) (h2:∀ q ∈ Φ,q.p h):∀ q' ∈ q::Φ,q'.p h:=fun q' hq=>by
 rcases List.mem_cons.1 hq with rfl | hq
 ·exact h1
 ·exact h2 q' hq
def C0a:DataW Unit→Option Spn
 | .agg [.lit (.int .i64 a),.lit (.int .i64 b)]=>some ⟨a,b⟩
 | _=>none
theorem B7h (d:DataW Unit) (a:Spn) (h:D1y d a):C0a d=some a:=by
 obtain ⟨d0,d1,rfl,h0,h1⟩:=h
 unfold B2r at h0 h1
 subst h0 h1
 rfl
def B1b (h:Array Obj) (g:Nat) (cs:List Value):Array Obj:=h.modify g fun
 | .cells _ t fr=>.cells cs.toArray t fr
 | o=>o
mutual
def A1p:DataW Unit→List Value
 | .agg ds=>B2w ds
 | .lit (.int k n)=>[.int k n]
 | .lit (.bool b)=>[.bool b]
 | .lit (.string s)=>[.string ⟨s.toArray⟩]
 | _=>[]
def B2w:List (DataW Unit)→List Value
 | []=>[]
 | d::r=>A1p d++B2w r
end
end Go.Proofs.YthcjfkljekdioaaGreatDoor
