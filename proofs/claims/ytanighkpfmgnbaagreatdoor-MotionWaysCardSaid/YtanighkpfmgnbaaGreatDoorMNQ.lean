import Derived.Test.YtanighkpfmgnbaaGreatDoorMQ2
set_option linter.unusedVariables false
set_option linter.unusedSimpArgs false
set_option linter.unnecessarySimpa false
set_option maxRecDepth 10000
namespace Go.Proofs.YtanighkpfmgnbaaGreatDoor
open Go Go.Fen
theorem C9t:A3y=true:=by decide +kernel
theorem C3f (c:Int):∀ (fu:Nat) (t:List Bool) (k:Nat),(A2c c fu t k).2=0
 | 0,_,_=>rfl
 | fu+1,t,k=>by
  rw [A2c]
  cases decide ((k:Int)<c) with
  | true=>exact C3f c fu _ _
  | false=>rfl
theorem C2o {c r:Int} (h:2≤c∧c≤80∧1≤r∧r≤40):O3 c r=0:=by
 have hg:X5 c r Sty.zero=0:=by
  unfold X5
  rw [show ((((decide (c<2))||(decide ((80:Int)<c)))||(decide (r<1)))||(decide ((40:Int)<r)))=false by simp only [Bool.or_eq_false_iff,decide_eq_false_iff_not];omega,show P0 Sty.zero=0 by decide +kernel]
  rfl
 unfold O3
 rw [hg]
 show (A9l c).2=0
 unfold A9l
 rw [show ((decide (c<2))||(decide ((80:Int)<c)))=false by simp only [Bool.or_eq_false_iff,decide_eq_false_iff_not];omega]
 exact C3f c _ _ _
theorem D0z {c r:Int} {f:Cur} (h:(2≤c∧c≤80∧1≤r∧r≤40)∧(0≤f.row∧f.row<r∧0≤f.col∧f.col<c)∧(f.wrap=true→f.col=c - 1)):P5 c r f=true:=by
 unfold P5
 rw [show ((((((((decide (c<2))||(decide ((80:Int)<c)))||(decide (r<1)))||(decide ((40:Int)<r)))||(decide (f.row<0)))||(decide (r≤f.row)))||(decide (f.col<0)))||(decide (c≤f.col)))=false by simp only [Bool.or_eq_false_iff,decide_eq_false_iff_not];omega]
 rw [B3x (by show (-9223372036854775808:Int)≤_;omega) (by show _≤(9223372036854775807:Int);omega)]
 cases hw:f.wrap with
 | false=>rfl
 | true=>exact decide_eq_true (h.2.2 hw)
theorem C1w {c r:Int} {f:Cur} {t:Plc} (h1:P5 c r f=true) (h2:P5 c r ({Cur.zero with row:=t.row,col:=t.col})=true):D6 c r ⟨f,t⟩=0:=by
 have b1:=C5n h1
 have b2:_∧(0≤t.row∧t.row<r∧0≤t.col∧t.col<c)∧_:=C5n h2
 unfold D6 G2
 rw [C2o b1.1,B3x (by show (-9223372036854775808:Int)≤_;omega) (by show _≤(9223372036854775807:Int);omega)]
 have e1:((((decide ((0:Int)≤f.row))&&(decide (f.row<r)))&&(decide ((0:Int)≤f.col)))&&(decide (f.col<c)))=true:=by simp only [Bool.and_eq_true,decide_eq_true_eq];omega
 have e2:((((decide ((0:Int)≤t.row))&&(decide (t.row<r)))&&(decide ((0:Int)≤t.col)))&&(decide (t.col<c)))=true:=by simp only [Bool.and_eq_true,decide_eq_true_eq];omega
 show (bif (((!decide ((0:Int)=0))||!((((decide ((0:Int)≤f.row))&&(decide (f.row<r)))&&(decide ((0:Int)≤f.col)))&&(decide (f.col<c))))||!((((decide ((0:Int)≤t.row))&&(decide (t.row<r)))&&(decide ((0:Int)≤t.col)))&&(decide (t.col<c))))||(f.wrap&&!decide (f.col=c - 1)) then (2:Int) else 0)=0
 rw [e1,e2]
 cases hw:f.wrap with
 | false=>rfl
 | true=>rw [decide_eq_true (b1.2.2 hw)];rfl
theorem C4v {c r:Int} {f:Cur} {t:Plc} (h:D6 c r ⟨f,t⟩=0):P5 c r f=true∧P5 c r ({Cur.zero with row:=t.row,col:=t.col})=true:=by
 have hb:=B6o (c:=c) (r:=r) (p:=⟨f,t⟩) (by rw [h];rfl)
 exact ⟨D0z ⟨hb.1,hb.2.1,hb.2.2.2⟩,D0z ⟨hb.1,hb.2.2.1,fun e=>by cases e⟩⟩
theorem C2i {c r:Int} {p:Pth} (h:D6 c r p≠0):D6 c r p=2:=by
 revert h;unfold D6
 cases ((((!decide ((O3 c r)=0))||(!(G2 p.frm.row p.frm.col r c)))||(!(G2 p.to_.row p.to_.col r c)))||(p.frm.wrap&&(!decide (p.frm.col=(IntKind.i64.wrap (c - (1:Int))))))) with
 | true=>exact fun _=>rfl
 | false=>exact fun h=>absurd rfl h
theorem C6f (a:List Act):∀ (l:List Act) (k:Nat),l=a.drop k→X2 a l k=true
 | [],_,_=>rfl
 | x::l,k,h=>by
  have hk:k<a.length:=by
   rcases Nat.lt_or_ge k a.length with h' | h'
   ·exact h'
   ·rw [List.drop_of_length_le h'] at h;cases h
  have h1:a.getD k Act.zero=x:=by
   rw [List.drop_eq_getElem_cons hk] at h
   rw [List.getD_eq_getElem?_getD,List.getElem?_eq_getElem hk];exact (List.cons.inj h).1.symm
  have h2:l=a.drop (k+1):=by rw [List.drop_eq_getElem_cons hk] at h;exact (List.cons.inj h).2
  rw [X2,h1,decide_eq_true rfl]
  exact C6f a l (k+1) h2
theorem C6q (a:List Act):K1 a a=true:=by
 unfold K1
 rw [decide_eq_true rfl]
 exact C6f a a 0 rfl
end Go.Proofs.YtanighkpfmgnbaaGreatDoor
set_option linter.unusedVariables false
set_option linter.unusedSimpArgs false
set_option linter.unnecessarySimpa false
set_option maxRecDepth 10000
namespace Go.Proofs.YtanighkpfmgnbaaGreatDoor
open Go Go.Fen
def B5q (wrap:Bool) (w:List Act):Bool:=(decide ((0:Int)<(w.length:Int)))||(!wrap)
def B2x (wrap:Bool) (A:List (List Act)) (d:List Act):List (List Act):=(A.map (d++·)).filter (B5q wrap)
theorem C8h (wrap:Bool) (w:List Act):((decide ((w.length:Int)=0))&&wrap)=!B5q wrap w:=by
 unfold B5q
 rcases Nat.eq_zero_or_pos w.length with h | h
 ·rw [decide_eq_true (show (w.length:Int)=0 by omega),decide_eq_false (show ¬ (0:Int)<(w.length:Int) by omega)];cases wrap<;>rfl
 ·rw [decide_eq_false (show ¬ (w.length:Int)=0 by omega),decide_eq_true (show (0:Int)<(w.length:Int) by omega)];cases wrap<;>rfl
theorem C7t (c0:Pth) (el:List Act) (ag:List (List Act)):∀ (A:List (List Act)) (t:Nat),G5 c0 el ag A t=B2x c0.frm.wrap A el++ag
 | [],_=>rfl
 | a::A,t=>by
  rw [G5,C7t c0 el ag A,C8h]
  unfold B2x
  rw [List.map_cons,List.filter_cons]
  cases B5q c0.frm.wrap (el++a)<;>rfl
def D3x (t:Plc):List Act:=[{Act.zero with kind:=19,n:=t.row+1,m:=t.col+1}]
theorem C7n (c0:Pth):∀ (l:List (List Act)),E7 c0 l=l.flatMap (B2x c0.frm.wrap (K5 c0))++[D3x c0.to_]
 | []=>rfl
 | el::l=>by
  rw [E7];simp only [D4]
  rw [C7t,C7n c0 l,List.flatMap_cons,List.append_assoc]
theorem C5f (f:Cur) (D:List (List Act)) (i:Nat) (ag:List (List Act)→Nat→List (List Act)):∀ (A out:List (List Act)) (k:Nat),N3 f D i ag A out k=ag (out++B2x f.wrap A (D.getD i [])) (i+1)
 | [],out,_=>by rw [N3];unfold B2x;rw [List.map_nil,List.filter_nil,List.append_nil]
 | a::A,out,k=>by
  rw [N3]
  have e:B2x f.wrap (a::A) (D.getD i [])=(bif B5q f.wrap (D.getD i []++a) then [D.getD i []++a] else [])++B2x f.wrap A (D.getD i []):=by
   unfold B2x;rw [List.map_cons,List.filter_cons];cases B5q f.wrap (D.getD i []++a)<;>rfl
  rw [e,show ((decide ((0:Int)<(((D.getD i [])++a).length:Int)))||(!f.wrap))=B5q f.wrap (D.getD i []++a) from rfl]
  cases B5q f.wrap (D.getD i []++a) with
  | true=>show N3 f D i ag A _ _=_;rw [C5f f D i ag A,List.append_assoc];rfl
  | false=>show N3 f D i ag A _ _=_;rw [C5f f D i ag A];rfl
theorem C5x {α:Type} {D l:List α} {d:α} {i:Nat} (h:d::l=D.drop i) (z:α):D.getD i z=d∧l=D.drop (i+1):=by
 have hk:i<D.length:=by
  rcases Nat.lt_or_ge i D.length with h' | h'
  ·exact h'
  ·rw [List.drop_of_length_le h'] at h;cases h
 rw [List.drop_eq_getElem_cons hk] at h
 exact ⟨by rw [List.getD_eq_getElem?_getD,List.getElem?_eq_getElem hk];exact (List.cons.inj h).1.symm,(List.cons.inj h).2⟩
theorem C8z (f:Cur) (t:Plc) (D A:List (List Act)):∀ (l out:List (List Act)) (i:Nat),l=D.drop i→U1 f t D A l out i=out++(l.flatMap (B2x f.wrap A)++[D3x t])
 | [],out,_,_=>rfl
 | d::l,out,i,h=>by
  obtain ⟨h1,h2⟩:=C5x h []
  rw [U1,C5f,C8z f t D A l _ _ h2,h1,List.flatMap_cons,List.append_assoc,List.append_assoc]
theorem C4l {f:Cur} {t:Plc} (hb:(0≤f.row∧f.row≤40∧0≤t.row∧t.row≤40)∧(0≤f.col∧f.col≤80∧0≤t.col∧t.col≤80)):A5p f t=G0 ⟨f,t⟩:=by
 unfold A5p;simp only [D4]
 rw [C8z f t (W7 f.row t.row) (S5 f.col t.col) (W7 f.row t.row) [] 0 rfl]
 have e1:W7 f.row t.row=H3 ⟨f,t⟩:=B5a (c0:=⟨f,t⟩) hb.1
 have e2:S5 f.col t.col=K5 ⟨f,t⟩:=B1g (p:=⟨f,t⟩) hb.2.2.2.1
 rw [e1,e2,List.nil_append]
 exact (C7n ⟨f,t⟩ _).symm
theorem C0e (D:List (List Act)):∀ (l:List (List Act)) (k:Nat),l=D.drop k→M4 D l k=true
 | [],_,_=>rfl
 | x::l,k,h=>by
  obtain ⟨h1,h2⟩:=C5x h []
  rw [M4,h1,C6q]
  exact C0e D l (k+1) h2
theorem B8t (c r:Int) (f:Cur) (t:Plc):A0u c r f t=true:=by
 unfold A0u
 rw [C9t];simp only [D4]
 rw [C5m]
 by_cases h0:D6 c r ⟨f,t⟩=0
 ·obtain ⟨h1,h2⟩:=C4v h0
  have hb:=A3c (c:=c) (r:=r) (c0:=⟨f,t⟩) (by rw [h0];rfl)
  rw [h1,h2,h0,C4l hb]
  show (bif (!decide (((G0 ⟨f,t⟩).length:Int)=((G0 ⟨f,t⟩).length:Int))) then false else M4 (G0 ⟨f,t⟩) (G0 ⟨f,t⟩) 0)=true
  rw [decide_eq_true rfl]
  exact C0e _ _ 0 rfl
 ·have e:((!(P5 c r f))||(!(P5 c r ({Cur.zero with row:=t.row,col:=t.col}))))=true:=by
   cases h1:P5 c r f with
   | false=>rfl
   | true =>
    cases h2:P5 c r ({Cur.zero with row:=t.row,col:=t.col}) with
    | false=>rfl
    | true=>exact absurd (C1w h1 h2) h0
  rw [e,C2i h0];rfl
end Go.Proofs.YtanighkpfmgnbaaGreatDoor
