import Derived.Test.YthcjfkljekdioaaGreatDoorRows
import Derived.Test.YthcjfkljekdioaaGreatDoorMA2
import Derived.Test.YthcjfkljekdioaaGreatDoorMB1
set_option linter.unusedVariables false
set_option linter.unusedSimpArgs false
set_option linter.unnecessarySimpa false
namespace Go.Proofs.YthcjfkljekdioaaGreatDoor
open Go Go.Fen
open Go.RowKit Go.ChangeShapes
def D4k (a:Spn):Prop:=Z9 a.lo∧Z9 a.hi
def D0b {H:Type} (d:DataW H) (a:Spn):Prop:=∃ d0 d1,d=.agg [d0,d1]∧A7d d0 a.lo∧A7d d1 a.hi
set_option maxRecDepth 100000 in
theorem C8a:Cod Tryz.prog 164 Spn C5 D0b (fun _ a=>D4k a):=fun {H enc w base sp held fuel cs x} h=>by
 obtain ⟨hl,n,ys,rfl,hx,hyl,hf⟩:=U8 Tryz.underlying164 h
 have hl':cs.length=2:=hl.trans (by kernel_rfl)
 obtain ⟨y0,e0,t0⟩:=hf 0 _ rfl
 obtain ⟨a0,c0,q0,p0⟩:=(O3 Tryz.underlying3) t0
 obtain ⟨y1,e1,t1⟩:=hf 1 _ rfl
 obtain ⟨a1,c1,q1,p1⟩:=(O3 Tryz.underlying3) t1
 have e:cs=_:=(List.drop_zero).symm.trans (C1 c0 (C1 c1 (List.drop_eq_nil_of_le (by omega:cs.length≤2)) (by kernel_rfl)) (by kernel_rfl))
 have hys:ys=[y0,y1]:=by
  match ys,hyl,e0,e1 with
  | [z0,z1],_,e0,e1=>simp at e0 e1;simp [e0,e1]
 rw [hys] at hx
 exact ⟨⟨a0,a1⟩,e,⟨_,_,hx,q0,q1⟩,p0,p1⟩
def D6e (a:Ar2):Prop:=Z9 a.a∧Z9 a.b
def D5q {H:Type} (d:DataW H) (a:Ar2):Prop:=∃ d0 d1,d=.agg [d0,d1]∧A7d d0 a.a∧A7d d1 a.b
set_option maxRecDepth 100000 in
theorem D5s:Cod Tryz.prog 70 Ar2 S8 D5q (fun _ a=>D6e a):=fun {H enc w base sp held fuel cs x} h=>by
 obtain ⟨hl,n,ys,rfl,hx,hyl,hf⟩:=B1j Tryz.underlying70 h
 have hl':cs.length=2:=hl.trans (by kernel_rfl)
 obtain ⟨y0,e0,t0⟩:=hf 0 (by decide)
 obtain ⟨a0,c0,q0,p0⟩:=(O3 Tryz.underlying3) t0
 obtain ⟨y1,e1,t1⟩:=hf 1 (by decide)
 obtain ⟨a1,c1,q1,p1⟩:=(O3 Tryz.underlying3) t1
 have e:cs=_:=(List.drop_zero).symm.trans (C1 c0 (C1 c1 (List.drop_eq_nil_of_le (by omega:cs.length≤2)) (by kernel_rfl)) (by kernel_rfl))
 have hys:ys=[y0,y1]:=by
  match ys,hyl,e0,e1 with
  | [z0,z1],_,e0,e1=>simp at e0 e1;simp [e0,e1]
 rw [hys] at hx
 exact ⟨⟨a0,a1⟩,e,⟨_,_,hx,q0,q1⟩,p0,p1⟩
def D1m (a:Col):Prop:=Z9 a.kind∧Z9 a.n
def D0r {H:Type} (d:DataW H) (a:Col):Prop:=∃ d0 d1,d=.agg [d0,d1]∧A7d d0 a.kind∧A7d d1 a.n
set_option maxRecDepth 100000 in
theorem C9x:Cod Tryz.prog 40 Col V9 D0r (fun _ a=>D1m a):=fun {H enc w base sp held fuel cs x} h=>by
 obtain ⟨hl,n,ys,rfl,hx,hyl,hf⟩:=U8 Tryz.underlying40 h
 have hl':cs.length=2:=hl.trans (by kernel_rfl)
 obtain ⟨y0,e0,t0⟩:=hf 0 _ rfl
 obtain ⟨a0,c0,q0,p0⟩:=(O3 Tryz.underlying3) t0
 obtain ⟨y1,e1,t1⟩:=hf 1 _ rfl
 obtain ⟨a1,c1,q1,p1⟩:=(O3 Tryz.underlying3) t1
 have e:cs=_:=(List.drop_zero).symm.trans (C1 c0 (C1 c1 (List.drop_eq_nil_of_le (by omega:cs.length≤2)) (by kernel_rfl)) (by kernel_rfl))
 have hys:ys=[y0,y1]:=by
  match ys,hyl,e0,e1 with
  | [z0,z1],_,e0,e1=>simp at e0 e1;simp [e0,e1]
 rw [hys] at hx
 exact ⟨⟨a0,a1⟩,e,⟨_,_,hx,q0,q1⟩,p0,p1⟩
def D0a (a:Sty):Prop:=Z9 a.attr∧Z9 a.under∧D1m a.fore∧D1m a.back∧D1m a.line
def D2p {H:Type} (d:DataW H) (a:Sty):Prop:=∃ d0 d1 d2 d3 d4,d=.agg [d0,d1,d2,d3,d4]∧A7d d0 a.attr∧A7d d1 a.under∧D0r d2 a.fore∧D0r d3 a.back∧D0r d4 a.line
set_option maxRecDepth 100000 in
theorem C8x:Cod Tryz.prog 42 Sty I8 D2p (fun _ a=>D0a a):=fun {H enc w base sp held fuel cs x} h=>by
 obtain ⟨hl,n,ys,rfl,hx,hyl,hf⟩:=U8 Tryz.underlying42 h
 have hl':cs.length=8:=hl.trans (by kernel_rfl)
 obtain ⟨y0,e0,t0⟩:=hf 0 _ rfl
 obtain ⟨a0,c0,q0,p0⟩:=(O3 Tryz.underlying3) t0
 obtain ⟨y1,e1,t1⟩:=hf 1 _ rfl
 obtain ⟨a1,c1,q1,p1⟩:=(O3 Tryz.underlying3) t1
 obtain ⟨y2,e2,t2⟩:=hf 2 _ rfl
 obtain ⟨a2,c2,q2,p2⟩:=C9x t2
 obtain ⟨y3,e3,t3⟩:=hf 3 _ rfl
 obtain ⟨a3,c3,q3,p3⟩:=C9x t3
 obtain ⟨y4,e4,t4⟩:=hf 4 _ rfl
 obtain ⟨a4,c4,q4,p4⟩:=C9x t4
 have e:cs=_:=(List.drop_zero).symm.trans (C1 c0 (C1 c1 (C1 c2 (C1 c3 (C1 c4 (List.drop_eq_nil_of_le (by omega:cs.length≤8)) (by kernel_rfl)) (by kernel_rfl)) (by kernel_rfl)) (by kernel_rfl)) (by kernel_rfl))
 have hys:ys=[y0,y1,y2,y3,y4]:=by
  match ys,hyl,e0,e1,e2,e3,e4 with
  | [z0,z1,z2,z3,z4],_,e0,e1,e2,e3,e4=>simp at e0 e1 e2 e3 e4;simp [e0,e1,e2,e3,e4]
 rw [hys] at hx
 exact ⟨⟨a0,a1,a2,a3,a4⟩,e,⟨_,_,_,_,_,hx,q0,q1,q2,q3,q4⟩,p0,p1,p2,p3,p4⟩
def C0e (a:Cel):Prop:=Z9 a.base∧D6e a.marks∧Z9 a.wide∧D0a a.sty
def D5g {H:Type} (d:DataW H) (a:Cel):Prop:=∃ d0 d1 d2 d3,d=.agg [d0,d1,d2,d3]∧A7d d0 a.base∧D5q d1 a.marks∧A7d d2 a.wide∧D2p d3 a.sty
set_option maxRecDepth 100000 in
theorem D6d:Cod Tryz.prog 72 Cel B2 D5g (fun _ a=>C0e a):=fun {H enc w base sp held fuel cs x} h=>by
 obtain ⟨hl,n,ys,rfl,hx,hyl,hf⟩:=U8 Tryz.underlying72 h
 have hl':cs.length=12:=hl.trans (by kernel_rfl)
 obtain ⟨y0,e0,t0⟩:=hf 0 _ rfl
 obtain ⟨a0,c0,q0,p0⟩:=(O3 Tryz.underlying3) t0
 obtain ⟨y1,e1,t1⟩:=hf 1 _ rfl
 obtain ⟨a1,c1,q1,p1⟩:=D5s t1
 obtain ⟨y2,e2,t2⟩:=hf 2 _ rfl
 obtain ⟨a2,c2,q2,p2⟩:=(O3 Tryz.underlying3) t2
 obtain ⟨y3,e3,t3⟩:=hf 3 _ rfl
 obtain ⟨a3,c3,q3,p3⟩:=C8x t3
 have e:cs=_:=(List.drop_zero).symm.trans (C1 c0 (C1 c1 (C1 c2 (C1 c3 (List.drop_eq_nil_of_le (by omega:cs.length≤12)) (by kernel_rfl)) (by kernel_rfl)) (by kernel_rfl)) (by kernel_rfl))
 have hys:ys=[y0,y1,y2,y3]:=by
  match ys,hyl,e0,e1,e2,e3 with
  | [z0,z1,z2,z3],_,e0,e1,e2,e3=>simp at e0 e1 e2 e3;simp [e0,e1,e2,e3]
 rw [hys] at hx
 exact ⟨⟨a0,a1,a2,a3⟩,e,⟨_,_,_,_,hx,q0,q1,q2,q3⟩,p0,p1,p2,p3⟩
set_option maxRecDepth 100000 in
theorem C8e:Cod Tryz.prog 78 Rwq B7 (fun _ _=>True) (fun h a=>C7n B2 (fun _ a=>C0e a) h a.s):=fun {H enc w base sp held fuel cs x} h=>by
 obtain ⟨hl,n,ys,rfl,hx,hyl,hf⟩:=U8 Tryz.underlying78 h
 have hl':cs.length=2:=hl.trans (by kernel_rfl)
 obtain ⟨y0,e0,t0⟩:=hf 0 _ rfl
 obtain ⟨a0,c0,q0,p0⟩:=D0h (c:=B2) (D:=D5g) (p:=fun _ a=>C0e a) D6d (sz:=12) (fun _=>rfl) (by kernel_rfl) (by decide) Tryz.underlying69 t0
 obtain ⟨y1,e1,t1⟩:=hf 1 _ rfl
 obtain ⟨a1,c1,q1,p1⟩:=(Q6 Tryz.underlying4) t1
 have e:cs=_:=(List.drop_zero).symm.trans (C1 c0 (C1 c1 (List.drop_eq_nil_of_le (by omega:cs.length≤2)) (by kernel_rfl)) (by kernel_rfl))
 exact ⟨⟨a0,a1⟩,e,trivial,p0⟩
def D2r (a:Cur):Prop:=Z9 a.row∧Z9 a.col
def D5x {H:Type} (d:DataW H) (a:Cur):Prop:=∃ d0 d1 d2,d=.agg [d0,d1,d2]∧A7d d0 a.row∧A7d d1 a.col∧A4t d2 a.wrap
set_option maxRecDepth 100000 in
theorem D2e:Cod Tryz.prog 38 Cur A4w D5x (fun _ a=>D2r a):=fun {H enc w base sp held fuel cs x} h=>by
 obtain ⟨hl,n,ys,rfl,hx,hyl,hf⟩:=U8 Tryz.underlying38 h
 have hl':cs.length=3:=hl.trans (by kernel_rfl)
 obtain ⟨y0,e0,t0⟩:=hf 0 _ rfl
 obtain ⟨a0,c0,q0,p0⟩:=(O3 Tryz.underlying3) t0
 obtain ⟨y1,e1,t1⟩:=hf 1 _ rfl
 obtain ⟨a1,c1,q1,p1⟩:=(O3 Tryz.underlying3) t1
 obtain ⟨y2,e2,t2⟩:=hf 2 _ rfl
 obtain ⟨a2,c2,q2,p2⟩:=(Q6 Tryz.underlying4) t2
 have e:cs=_:=(List.drop_zero).symm.trans (C1 c0 (C1 c1 (C1 c2 (List.drop_eq_nil_of_le (by omega:cs.length≤3)) (by kernel_rfl)) (by kernel_rfl)) (by kernel_rfl))
 have hys:ys=[y0,y1,y2]:=by
  match ys,hyl,e0,e1,e2 with
  | [z0,z1,z2],_,e0,e1,e2=>simp at e0 e1 e2;simp [e0,e1,e2]
 rw [hys] at hx
 exact ⟨⟨a0,a1,a2⟩,e,⟨_,_,_,hx,q0,q1,q2⟩,p0,p1⟩
def D6h (a:Ar4):Prop:=Z9 a.a∧Z9 a.b∧Z9 a.c∧Z9 a.d
def D5e {H:Type} (d:DataW H) (a:Ar4):Prop:=∃ d0 d1 d2 d3,d=.agg [d0,d1,d2,d3]∧A7d d0 a.a∧A7d d1 a.b∧A7d d2 a.c∧A7d d3 a.d
set_option maxRecDepth 100000 in
theorem D5c:Cod Tryz.prog 43 Ar4 B8l D5e (fun _ a=>D6h a):=fun {H enc w base sp held fuel cs x} h=>by
 obtain ⟨hl,n,ys,rfl,hx,hyl,hf⟩:=B1j Tryz.underlying43 h
 have hl':cs.length=4:=hl.trans (by kernel_rfl)
 obtain ⟨y0,e0,t0⟩:=hf 0 (by decide)
 obtain ⟨a0,c0,q0,p0⟩:=(O3 Tryz.underlying3) t0
 obtain ⟨y1,e1,t1⟩:=hf 1 (by decide)
 obtain ⟨a1,c1,q1,p1⟩:=(O3 Tryz.underlying3) t1
 obtain ⟨y2,e2,t2⟩:=hf 2 (by decide)
 obtain ⟨a2,c2,q2,p2⟩:=(O3 Tryz.underlying3) t2
 obtain ⟨y3,e3,t3⟩:=hf 3 (by decide)
 obtain ⟨a3,c3,q3,p3⟩:=(O3 Tryz.underlying3) t3
 have e:cs=_:=(List.drop_zero).symm.trans (C1 c0 (C1 c1 (C1 c2 (C1 c3 (List.drop_eq_nil_of_le (by omega:cs.length≤4)) (by kernel_rfl)) (by kernel_rfl)) (by kernel_rfl)) (by kernel_rfl))
 have hys:ys=[y0,y1,y2,y3]:=by
  match ys,hyl,e0,e1,e2,e3 with
  | [z0,z1,z2,z3],_,e0,e1,e2,e3=>simp at e0 e1 e2 e3;simp [e0,e1,e2,e3]
 rw [hys] at hx
 exact ⟨⟨a0,a1,a2,a3⟩,e,⟨_,_,_,_,hx,q0,q1,q2,q3⟩,p0,p1,p2,p3⟩
def D3y (a:Sts):Prop:=D6h a.g∧Z9 a.used∧Z9 a.once
def D5p {H:Type} (d:DataW H) (a:Sts):Prop:=∃ d0 d1 d2,d=.agg [d0,d1,d2]∧D5e d0 a.g∧A7d d1 a.used∧A7d d2 a.once
set_option maxRecDepth 100000 in
theorem D2b:Cod Tryz.prog 45 Sts A4x D5p (fun _ a=>D3y a):=fun {H enc w base sp held fuel cs x} h=>by
 obtain ⟨hl,n,ys,rfl,hx,hyl,hf⟩:=U8 Tryz.underlying45 h
 have hl':cs.length=6:=hl.trans (by kernel_rfl)
 obtain ⟨y0,e0,t0⟩:=hf 0 _ rfl
 obtain ⟨a0,c0,q0,p0⟩:=D5c t0
 obtain ⟨y1,e1,t1⟩:=hf 1 _ rfl
 obtain ⟨a1,c1,q1,p1⟩:=(O3 Tryz.underlying3) t1
 obtain ⟨y2,e2,t2⟩:=hf 2 _ rfl
 obtain ⟨a2,c2,q2,p2⟩:=(O3 Tryz.underlying3) t2
 have e:cs=_:=(List.drop_zero).symm.trans (C1 c0 (C1 c1 (C1 c2 (List.drop_eq_nil_of_le (by omega:cs.length≤6)) (by kernel_rfl)) (by kernel_rfl)) (by kernel_rfl))
 have hys:ys=[y0,y1,y2]:=by
  match ys,hyl,e0,e1,e2 with
  | [z0,z1,z2],_,e0,e1,e2=>simp at e0 e1 e2;simp [e0,e1,e2]
 rw [hys] at hx
 exact ⟨⟨a0,a1,a2⟩,e,⟨_,_,_,hx,q0,q1,q2⟩,p0,p1,p2⟩
def D6c (a:Mod):Prop:=Z9 a.mouse
def D6s {H:Type} (d:DataW H) (a:Mod):Prop:=∃ d0 d1 d2 d3 d4 d5 d6 d7 d8 d9 d10 d11 d12,d=.agg [d0,d1,d2,d3,d4,d5,d6,d7,d8,d9,d10,d11,d12]∧A4t d0 a.insert∧A4t d1 a.newline∧A4t d2 a.cursorKeys∧A4t d3 a.inverse∧A4t d4 a.origin∧A4t d5 a.auto∧A4t d6 a.visible∧A4t d7 a.paste∧A4t d8 a.focus∧A4t d9 a.sync∧A4t d10 a.keypad∧A7d d11 a.mouse∧A4t d12 a.mouseSgr
set_option maxRecDepth 100000 in
theorem D5l:Cod Tryz.prog 47 Mod A2m D6s (fun _ a=>D6c a):=fun {H enc w base sp held fuel cs x} h=>by
 obtain ⟨hl,n,ys,rfl,hx,hyl,hf⟩:=U8 Tryz.underlying47 h
 have hl':cs.length=13:=hl.trans (by kernel_rfl)
 obtain ⟨y0,e0,t0⟩:=hf 0 _ rfl
 obtain ⟨a0,c0,q0,p0⟩:=(Q6 Tryz.underlying4) t0
 obtain ⟨y1,e1,t1⟩:=hf 1 _ rfl
 obtain ⟨a1,c1,q1,p1⟩:=(Q6 Tryz.underlying4) t1
 obtain ⟨y2,e2,t2⟩:=hf 2 _ rfl
 obtain ⟨a2,c2,q2,p2⟩:=(Q6 Tryz.underlying4) t2
 obtain ⟨y3,e3,t3⟩:=hf 3 _ rfl
 obtain ⟨a3,c3,q3,p3⟩:=(Q6 Tryz.underlying4) t3
 obtain ⟨y4,e4,t4⟩:=hf 4 _ rfl
 obtain ⟨a4,c4,q4,p4⟩:=(Q6 Tryz.underlying4) t4
 obtain ⟨y5,e5,t5⟩:=hf 5 _ rfl
 obtain ⟨a5,c5,q5,p5⟩:=(Q6 Tryz.underlying4) t5
 obtain ⟨y6,e6,t6⟩:=hf 6 _ rfl
 obtain ⟨a6,c6,q6,p6⟩:=(Q6 Tryz.underlying4) t6
 obtain ⟨y7,e7,t7⟩:=hf 7 _ rfl
 obtain ⟨a7,c7,q7,p7⟩:=(Q6 Tryz.underlying4) t7
 obtain ⟨y8,e8,t8⟩:=hf 8 _ rfl
 obtain ⟨a8,c8,q8,p8⟩:=(Q6 Tryz.underlying4) t8
 obtain ⟨y9,e9,t9⟩:=hf 9 _ rfl
 obtain ⟨a9,c9,q9,p9⟩:=(Q6 Tryz.underlying4) t9
 obtain ⟨y10,e10,t10⟩:=hf 10 _ rfl
 obtain ⟨a10,c10,q10,p10⟩:=(Q6 Tryz.underlying4) t10
 obtain ⟨y11,e11,t11⟩:=hf 11 _ rfl
 obtain ⟨a11,c11,q11,p11⟩:=(O3 Tryz.underlying3) t11
 obtain ⟨y12,e12,t12⟩:=hf 12 _ rfl
 obtain ⟨a12,c12,q12,p12⟩:=(Q6 Tryz.underlying4) t12
 have e:cs=_:=(List.drop_zero).symm.trans (C1 c0 (C1 c1 (C1 c2 (C1 c3 (C1 c4 (C1 c5 (C1 c6 (C1 c7 (C1 c8 (C1 c9 (C1 c10 (C1 c11 (C1 c12 (List.drop_eq_nil_of_le (by omega:cs.length≤13)) (by kernel_rfl)) (by kernel_rfl)) (by kernel_rfl)) (by kernel_rfl)) (by kernel_rfl)) (by kernel_rfl)) (by kernel_rfl)) (by kernel_rfl)) (by kernel_rfl)) (by kernel_rfl)) (by kernel_rfl)) (by kernel_rfl)) (by kernel_rfl))
 have hys:ys=[y0,y1,y2,y3,y4,y5,y6,y7,y8,y9,y10,y11,y12]:=by
  match ys,hyl,e0,e1,e2,e3,e4,e5,e6,e7,e8,e9,e10,e11,e12 with
  | [z0,z1,z2,z3,z4,z5,z6,z7,z8,z9,z10,z11,z12],_,e0,e1,e2,e3,e4,e5,e6,e7,e8,e9,e10,e11,e12=>simp at e0 e1 e2 e3 e4 e5 e6 e7 e8 e9 e10 e11 e12;simp [e0,e1,e2,e3,e4,e5,e6,e7,e8,e9,e10,e11,e12]
 rw [hys] at hx
 exact ⟨⟨a0,a1,a2,a3,a4,a5,a6,a7,a8,a9,a10,a11,a12⟩,e,⟨_,_,_,_,_,_,_,_,_,_,_,_,_,hx,q0,q1,q2,q3,q4,q5,q6,q7,q8,q9,q10,q11,q12⟩,p11⟩
def D3l (a:Sav):Prop:=D2r a.cursor∧D0a a.style∧D3y a.sets
def D7g {H:Type} (d:DataW H) (a:Sav):Prop:=∃ d0 d1 d2 d3 d4,d=.agg [d0,d1,d2,d3,d4]∧A4t d0 a.is_∧D5x d1 a.cursor∧D2p d2 a.style∧D5p d3 a.sets∧A4t d4 a.origin
set_option maxRecDepth 100000 in
theorem D1x:Cod Tryz.prog 50 Sav A1t D7g (fun _ a=>D3l a):=fun {H enc w base sp held fuel cs x} h=>by
 obtain ⟨hl,n,ys,rfl,hx,hyl,hf⟩:=U8 Tryz.underlying50 h
 have hl':cs.length=19:=hl.trans (by kernel_rfl)
 obtain ⟨y0,e0,t0⟩:=hf 0 _ rfl
 obtain ⟨a0,c0,q0,p0⟩:=(Q6 Tryz.underlying4) t0
 obtain ⟨y1,e1,t1⟩:=hf 1 _ rfl
 obtain ⟨a1,c1,q1,p1⟩:=D2e t1
 obtain ⟨y2,e2,t2⟩:=hf 2 _ rfl
 obtain ⟨a2,c2,q2,p2⟩:=C8x t2
 obtain ⟨y3,e3,t3⟩:=hf 3 _ rfl
 obtain ⟨a3,c3,q3,p3⟩:=D2b t3
 obtain ⟨y4,e4,t4⟩:=hf 4 _ rfl
 obtain ⟨a4,c4,q4,p4⟩:=(Q6 Tryz.underlying4) t4
 have e:cs=_:=(List.drop_zero).symm.trans (C1 c0 (C1 c1 (C1 c2 (C1 c3 (C1 c4 (List.drop_eq_nil_of_le (by omega:cs.length≤19)) (by kernel_rfl)) (by kernel_rfl)) (by kernel_rfl)) (by kernel_rfl)) (by kernel_rfl))
 have hys:ys=[y0,y1,y2,y3,y4]:=by
  match ys,hyl,e0,e1,e2,e3,e4 with
  | [z0,z1,z2,z3,z4],_,e0,e1,e2,e3,e4=>simp at e0 e1 e2 e3 e4;simp [e0,e1,e2,e3,e4]
 rw [hys] at hx
 exact ⟨⟨a0,a1,a2,a3,a4⟩,e,⟨_,_,_,_,_,hx,q0,q1,q2,q3,q4⟩,p1,p2,p3⟩
set_option maxRecDepth 100000 in
theorem D2k {H:Type} {enc:TypeId×Value→H} {w:World} {base:Nat} {sp:Nat→Bool} {held:Bool} {fuel:Nat} {cs:List Value} {x:DataW H×List MemPlace} (h:DataW.trod enc Tryz.prog w base sp held fuel 52 cs=some x) :
  ∃ (cols:Int) (rows:Int) (mainq:Option Addr) (maink:Nat) (mainrs:List Rwq) (main:List (Rwc Cel)) (altq:Option Addr) (altk:Nat) (altrs:List Rwq) (alt:List (Rwc Cel)) (onAlt:Bool) (pastq:Option Addr) (pastk:Nat) (pastrs:List Rwq) (past:List (Rwc Cel)) (cursor:Cur) (style:Sty) (sets:Sts) (modes:Mod) (top:Int) (bottom:Int) (tabsq:Option Addr) (tabsk:Nat) (tabs:List Bool) (kept:Sav) (keptAlt:Sav) (shape:Int) (title:List UInt8) (last:Int),cs=(K8 cols++(K8 rows++([.slice mainq main.length maink]++([.slice altq alt.length altk]++(F4 onAlt++([.slice pastq past.length pastk]++(A4w cursor++(I8 style++(A4x sets++(A2m modes++(K8 top++(K8 bottom++([.slice tabsq tabs.length tabsk]++(A1t kept++(A1t keptAlt++(K8 shape++(D3b title++(K8 last++[]))))))))))))))))))∧(Z9 cols)∧(Z9 rows)∧(main.length≤maink)∧(maink≤9223372036854775807)∧(D0 mainrs main)∧((sl B7 mainq mainrs).p (A9e w))∧((B8 B2 mainrs main).p (A9e w))∧(∀ xs ∈ main,∀ a ∈ xs.l,C0e a)∧(alt.length≤altk)∧(altk≤9223372036854775807)∧(D0 altrs alt)∧((sl B7 altq altrs).p (A9e w))∧((B8 B2 altrs alt).p (A9e w))∧(∀ xs ∈ alt,∀ a ∈ xs.l,C0e a)∧(past.length≤pastk)∧(pastk≤9223372036854775807)∧(D0 pastrs past)∧((sl B7 pastq pastrs).p (A9e w))∧((B8 B2 pastrs past).p (A9e w))∧(∀ xs ∈ past,∀ a ∈ xs.l,C0e a)∧(D2r cursor)∧(D0a style)∧(D3y sets)∧(D6c modes)∧(Z9 top)∧(Z9 bottom)∧(tabs.length≤tabsk)∧(tabsk≤9223372036854775807)∧((sl F4 tabsq tabs).p (A9e w))∧(D3l kept)∧(D3l keptAlt)∧(Z9 shape)∧(title.length≤9223372036854775807)∧(∃ ds,x.1=.agg ds∧DataW.lit (.string title) ∈ ds)∧(Z9 last):=by
 obtain ⟨hl,n,ys,rfl,hx,hyl,hf⟩:=U8 Tryz.underlying52 h
 have hl':cs.length=80:=hl.trans (by kernel_rfl)
 obtain ⟨y0,e0,t0⟩:=hf 0 _ rfl
 obtain ⟨cols,c0,q0,p0⟩:=(O3 Tryz.underlying3) t0
 obtain ⟨y1,e1,t1⟩:=hf 1 _ rfl
 obtain ⟨rows,c1,q1,p1⟩:=(O3 Tryz.underlying3) t1
 obtain ⟨y2,e2,t2⟩:=hf 2 _ rfl
 obtain ⟨mainq,maink,mainrs,main,c2,g2_1,g2_2,g2_3,g2_4,g2_5,g2_6⟩:=B1n (c:=B2) (p:=fun _ a=>C0e a) C8e (by kernel_rfl) Tryz.underlying36 t2
 obtain ⟨y3,e3,t3⟩:=hf 3 _ rfl
 obtain ⟨altq,altk,altrs,alt,c3,g3_1,g3_2,g3_3,g3_4,g3_5,g3_6⟩:=B1n (c:=B2) (p:=fun _ a=>C0e a) C8e (by kernel_rfl) Tryz.underlying36 t3
 obtain ⟨y4,e4,t4⟩:=hf 4 _ rfl
 obtain ⟨onAlt,c4,q4,p4⟩:=(Q6 Tryz.underlying4) t4
 obtain ⟨y5,e5,t5⟩:=hf 5 _ rfl
 obtain ⟨pastq,pastk,pastrs,past,c5,g5_1,g5_2,g5_3,g5_4,g5_5,g5_6⟩:=B1n (c:=B2) (p:=fun _ a=>C0e a) C8e (by kernel_rfl) Tryz.underlying36 t5
 obtain ⟨y6,e6,t6⟩:=hf 6 _ rfl
 obtain ⟨cursor,c6,q6,p6⟩:=D2e t6
 obtain ⟨y7,e7,t7⟩:=hf 7 _ rfl
 obtain ⟨style,c7,q7,p7⟩:=C8x t7
 obtain ⟨y8,e8,t8⟩:=hf 8 _ rfl
 obtain ⟨sets,c8,q8,p8⟩:=D2b t8
 obtain ⟨y9,e9,t9⟩:=hf 9 _ rfl
 obtain ⟨modes,c9,q9,p9⟩:=D5l t9
 obtain ⟨y10,e10,t10⟩:=hf 10 _ rfl
 obtain ⟨top,c10,q10,p10⟩:=(O3 Tryz.underlying3) t10
 obtain ⟨y11,e11,t11⟩:=hf 11 _ rfl
 obtain ⟨bottom,c11,q11,p11⟩:=(O3 Tryz.underlying3) t11
 obtain ⟨y12,e12,t12⟩:=hf 12 _ rfl
 obtain ⟨tabsq,tabsk,tabs,c12,g12_1,g12_2,g12_4,g12_3,_⟩:=C1m (c:=F4) (D:=A4t) (p:=fun _ a=>True) (Q6 Tryz.underlying4) (sz:=1) (fun _=>rfl) (by kernel_rfl) (by decide) Tryz.underlying48 t12
 obtain ⟨y13,e13,t13⟩:=hf 13 _ rfl
 obtain ⟨kept,c13,q13,p13⟩:=D1x t13
 obtain ⟨y14,e14,t14⟩:=hf 14 _ rfl
 obtain ⟨keptAlt,c14,q14,p14⟩:=D1x t14
 obtain ⟨y15,e15,t15⟩:=hf 15 _ rfl
 obtain ⟨shape,c15,q15,p15⟩:=(O3 Tryz.underlying3) t15
 obtain ⟨y16,e16,t16⟩:=hf 16 _ rfl
 obtain ⟨title,c16,q16,p16⟩:=(D0s Tryz.underlying9) t16
 obtain ⟨y17,e17,t17⟩:=hf 17 _ rfl
 obtain ⟨last,c17,q17,p17⟩:=(O3 Tryz.underlying3) t17
 exact ⟨cols,rows,mainq,maink,mainrs,main,altq,altk,altrs,alt,onAlt,pastq,pastk,pastrs,past,cursor,style,sets,modes,top,bottom,tabsq,tabsk,tabs,kept,keptAlt,shape,title,last,(List.drop_zero).symm.trans (C1 c0 (C1 c1 (C1 c2 (C1 c3 (C1 c4 (C1 c5 (C1 c6 (C1 c7 (C1 c8 (C1 c9 (C1 c10 (C1 c11 (C1 c12 (C1 c13 (C1 c14 (C1 c15 (C1 c16 (C1 c17 (List.drop_eq_nil_of_le (by omega:cs.length≤80)) (by kernel_rfl)) (by kernel_rfl)) (by kernel_rfl)) (by kernel_rfl)) (by kernel_rfl)) (by kernel_rfl)) (by kernel_rfl)) (by kernel_rfl)) (by kernel_rfl)) (by kernel_rfl)) (by kernel_rfl)) (by kernel_rfl)) (by kernel_rfl)) (by kernel_rfl)) (by kernel_rfl)) (by kernel_rfl)) (by kernel_rfl)) (by kernel_rfl)),p0,p1,g2_1,g2_2,g2_3,g2_4,g2_5,g2_6,g3_1,g3_2,g3_3,g3_4,g3_5,g3_6,g5_1,g5_2,g5_3,g5_4,g5_5,g5_6,p6,p7,p8,p9,p10,p11,g12_1,g12_2,g12_3,p13,p14,p15,p16,⟨_,hx,by rw [← show y16.1=DataW.lit (.string title) from q16];exact List.mem_map_of_mem (List.mem_of_getElem? e16)⟩,p17⟩
end Go.Proofs.YthcjfkljekdioaaGreatDoor
set_option linter.unusedVariables false
set_option linter.unusedSimpArgs false
namespace Go.Proofs.YthcjfkljekdioaaGreatDoor
open Go Go.Fen Go.RowKit Go.ChangeShapes
namespace bulks
theorem D1e {H:Type} {d:DataW H} {l:List (DataW H)} (h:d ∈ l):Rows.uptoBulk d≤Rows.uptoBulkAll l:=by
 induction l with
 | nil=>cases h
 | cons x r ih =>
  simp only [Rows.uptoBulkAll]
  cases List.mem_cons.1 h with
  | inl e=>subst e;omega
  | inr e=>have:=ih e;omega
theorem bound {H:Type} {l:List (DataW H)} (hk:Rows.uptoSmall H l=true):Rows.uptoBulkAll l≤1048576:=by
 simpa [Rows.uptoSmall] using hk
theorem str_in {H:Type} {d:DataW H} {s:List UInt8} (h:∃ ds,d=.agg ds∧DataW.lit (.string s) ∈ ds):s.length+2≤Rows.uptoBulk d:=by
 obtain ⟨ds,rfl,hm⟩:=h
 have:=D1e hm
 simp only [Rows.uptoBulk] at this ⊢
 omega
end bulks
theorem D0x {h:Hp}:∀ q ∈ ([]:List Pers),q.p h:=fun _ h=>by cases h
theorem all_cons {h:Hp} {q:Pers} {Φ:List Pers} (h1:q.p h) (h2:∀ q ∈ Φ,q.p h):∀ q' ∈ q::Φ,q'.p h:=fun q' hq=>by
 rcases List.mem_cons.1 hq with rfl | hq
 ·exact h1
 ·exact h2 q' hq
def C1c:DataW Unit→Option Spn
 | .agg [.lit (.int .i64 a),.lit (.int .i64 b)]=>some ⟨a,b⟩
 | _=>none
theorem B6k (d:DataW Unit) (a:Spn) (h:D0b d a):C1c d=some a:=by
 obtain ⟨d0,d1,rfl,h0,h1⟩:=h
 unfold A7d at h0 h1
 subst h0 h1
 rfl
def B1o (h:Array Obj) (g:Nat) (cs:List Value):Array Obj:=h.modify g fun
 | .cells _ t fr=>.cells cs.toArray t fr
 | o=>o
mutual
def A2d:DataW Unit→List Value
 | .agg ds=>B2w ds
 | .lit (.int k n)=>[.int k n]
 | .lit (.bool b)=>[.bool b]
 | .lit (.string s)=>[.string ⟨s.toArray⟩]
 | _=>[]
def B2w:List (DataW Unit)→List Value
 | []=>[]
 | d::r=>A2d d++B2w r
end
end Go.Proofs.YthcjfkljekdioaaGreatDoor
