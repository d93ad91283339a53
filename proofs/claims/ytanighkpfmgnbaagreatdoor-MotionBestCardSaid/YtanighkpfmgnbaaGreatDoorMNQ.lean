import Derived.Test.YtanighkpfmgnbaaGreatDoorMQ2
import Derived.Test.YtanighkpfmgnbaaGreatDoorMN2
set_option linter.unusedVariables false
set_option linter.unusedSimpArgs false
set_option linter.unnecessarySimpa false
set_option maxRecDepth 10000
namespace Go.Proofs.YtanighkpfmgnbaaGreatDoor
open Go Go.Fen
theorem E2k:A8l=true:=by decide +kernel
theorem D1g (c:Int):∀ (fu:Nat) (t:List Bool) (k:Nat),(A5x c fu t k).2=0
 | 0,_,_=>rfl
 | fu+1,t,k=>by
  rw [A5x]
  cases decide ((k:Int)<c) with
  | true=>exact D1g c fu _ _
  | false=>rfl
theorem D2a {c r:Int} (h:2≤c∧c≤80∧1≤r∧r≤40):U2 c r=0:=by
 have hg:A1z c r Sty.zero=0:=by
  unfold A1z
  rw [show ((((decide (c<2))||(decide ((80:Int)<c)))||(decide (r<1)))||(decide ((40:Int)<r)))=false by simp only [Bool.or_eq_false_iff,decide_eq_false_iff_not];omega,show U8 Sty.zero=0 by decide +kernel]
  rfl
 unfold U2
 rw [hg]
 show (B5m c).2=0
 unfold B5m
 rw [show ((decide (c<2))||(decide ((80:Int)<c)))=false by simp only [Bool.or_eq_false_iff,decide_eq_false_iff_not];omega]
 exact D1g c _ _ _
theorem E3v {c r:Int} {f:Cur} (h:(2≤c∧c≤80∧1≤r∧r≤40)∧(0≤f.row∧f.row<r∧0≤f.col∧f.col<c)∧(f.wrap=true→f.col=c - 1)):V1 c r f=true:=by
 unfold V1
 rw [show ((((((((decide (c<2))||(decide ((80:Int)<c)))||(decide (r<1)))||(decide ((40:Int)<r)))||(decide (f.row<0)))||(decide (r≤f.row)))||(decide (f.col<0)))||(decide (c≤f.col)))=false by simp only [Bool.or_eq_false_iff,decide_eq_false_iff_not];omega]
 rw [C0a (by show (-9223372036854775808:Int)≤_;omega) (by show _≤(9223372036854775807:Int);omega)]
 cases hw:f.wrap with
 | false=>rfl
 | true=>exact decide_eq_true (h.2.2 hw)
theorem C9t {c r:Int} {f:Cur} {t:Plc} (h1:V1 c r f=true) (h2:V1 c r ({Cur.zero with row:=t.row,col:=t.col})=true):F1 c r ⟨f,t⟩=0:=by
 have b1:=D5c h1
 have b2:_∧(0≤t.row∧t.row<r∧0≤t.col∧t.col<c)∧_:=D5c h2
 unfold F1 H8
 rw [D2a b1.1,C0a (by show (-9223372036854775808:Int)≤_;omega) (by show _≤(9223372036854775807:Int);omega)]
 have e1:((((decide ((0:Int)≤f.row))&&(decide (f.row<r)))&&(decide ((0:Int)≤f.col)))&&(decide (f.col<c)))=true:=by simp only [Bool.and_eq_true,decide_eq_true_eq];omega
 have e2:((((decide ((0:Int)≤t.row))&&(decide (t.row<r)))&&(decide ((0:Int)≤t.col)))&&(decide (t.col<c)))=true:=by simp only [Bool.and_eq_true,decide_eq_true_eq];omega
 show (bif (((!decide ((0:Int)=0))||!((((decide ((0:Int)≤f.row))&&(decide (f.row<r)))&&(decide ((0:Int)≤f.col)))&&(decide (f.col<c))))||!((((decide ((0:Int)≤t.row))&&(decide (t.row<r)))&&(decide ((0:Int)≤t.col)))&&(decide (t.col<c))))||(f.wrap&&!decide (f.col=c - 1)) then (2:Int) else 0)=0
 rw [e1,e2]
 cases hw:f.wrap with
 | false=>rfl
 | true=>rw [decide_eq_true (b1.2.2 hw)];rfl
theorem D4f {c r:Int} {f:Cur} {t:Plc} (h:F1 c r ⟨f,t⟩=0):V1 c r f=true∧V1 c r ({Cur.zero with row:=t.row,col:=t.col})=true:=by
 have hb:=C4d (c:=c) (r:=r) (p:=⟨f,t⟩) (by rw [h];rfl)
 exact ⟨E3v ⟨hb.1,hb.2.1,hb.2.2.2⟩,E3v ⟨hb.1,hb.2.2.1,fun e=>by cases e⟩⟩
theorem D2p {c r:Int} {p:Pth} (h:F1 c r p≠0):F1 c r p=2:=by
 revert h;unfold F1
 cases ((((!decide ((U2 c r)=0))||(!(H8 p.frm.row p.frm.col r c)))||(!(H8 p.to_.row p.to_.col r c)))||(p.frm.wrap&&(!decide (p.frm.col=(IntKind.i64.wrap (c - (1:Int))))))) with
 | true=>exact fun _=>rfl
 | false=>exact fun h=>absurd rfl h
theorem D4u (a:List Act):∀ (l:List Act) (k:Nat),l=a.drop k→A1p a l k=true
 | [],_,_=>rfl
 | x::l,k,h=>by
  have hk:k<a.length:=by
   rcases Nat.lt_or_ge k a.length with h' | h'
   ·exact h'
   ·rw [List.drop_of_length_le h'] at h;cases h
  have h1:a.getD k Act.zero=x:=by
   rw [List.drop_eq_getElem_cons hk] at h
   rw [List.getD_eq_getElem?_getD,List.getElem?_eq_getElem hk];exact (List.cons.inj h).1.symm
  have h2:l=a.drop (k+1):=by rw [List.drop_eq_getElem_cons hk] at h;exact (List.cons.inj h).2
  rw [A1p,h1,decide_eq_true rfl]
  exact D4u a l (k+1) h2
theorem D7k (a:List Act):K2 a a=true:=by
 unfold K2
 rw [decide_eq_true rfl]
 exact D4u a a 0 rfl
end Go.Proofs.YtanighkpfmgnbaaGreatDoor
set_option linter.unusedVariables false
set_option linter.unusedSimpArgs false
set_option linter.unnecessarySimpa false
set_option maxRecDepth 10000
namespace Go.Proofs.YtanighkpfmgnbaaGreatDoor
open Go Go.Fen
theorem C3o {c0:Pth} {e:List Act} (he:e ∈ F7 c0) :
  (e=[]∧c0.frm.row=c0.to_.row)∨(e=N7 0 (c0.frm.row - c0.to_.row)∧c0.to_.row<c0.frm.row)∨(e=N7 1 (c0.to_.row - c0.frm.row)∧c0.frm.row<c0.to_.row)∨(e=N4 5 (c0.to_.row - c0.frm.row)∧c0.frm.row<c0.to_.row):=by
 revert he;unfold F7;simp only [B5];intro he
 rcases Int.lt_trichotomy c0.frm.row c0.to_.row with h | h | h
 ·rw [decide_eq_false (show ¬ c0.to_.row - c0.frm.row=0 by omega),decide_eq_false (show ¬ c0.to_.row - c0.frm.row<0 by omega)] at he
  have he:e ∈ N7 1 (c0.to_.row - c0.frm.row)::(bif decide (c0.to_.row - c0.frm.row≤4) then [N4 5 (c0.to_.row - c0.frm.row)] else []):=he
  rcases List.mem_cons.1 he with he | he
  ·exact .inr (.inr (.inl ⟨he,h⟩))
  ·cases hd:decide (c0.to_.row - c0.frm.row≤4) with
   | true=>rw [hd] at he;exact .inr (.inr (.inr ⟨List.mem_singleton.1 he,h⟩))
   | false=>rw [hd] at he;cases he
 ·rw [decide_eq_true (show c0.to_.row - c0.frm.row=0 by omega)] at he
  exact .inl ⟨List.mem_singleton.1 he,h⟩
 ·rw [decide_eq_false (show ¬ c0.to_.row - c0.frm.row=0 by omega),decide_eq_true (show c0.to_.row - c0.frm.row<0 by omega),show -(c0.to_.row - c0.frm.row)=c0.frm.row - c0.to_.row by omega] at he
  exact .inr (.inl ⟨List.mem_singleton.1 he,h⟩)
theorem B2v {α:Type} {x y:α} {l:List α} (h:x ∈ l++[y]):x ∈ l∨x=y:=by
 rcases List.mem_append.1 h with h | h
 ·exact .inl h
 ·exact .inr (List.mem_singleton.1 h)
def C9i (p:Pth) (e:List Act):Prop :=
 (e=[]∧p.frm.col=p.to_.col)∨e=[{Act.zero with kind:=22,n:=p.to_.col+1}]∨(e=N7 2 (p.to_.col - p.frm.col)∧p.frm.col<p.to_.col)∨(e=N7 3 (-(p.to_.col - p.frm.col))∧p.to_.col<p.frm.col) ∨
  (e=N4 3 (-(p.to_.col - p.frm.col))∧p.to_.col<p.frm.col)∨(e=N4 6 1∧p.to_.col=0)∨(e=N4 6 1++N7 2 p.to_.col∧p.to_.col≠0)
theorem D3x {p:Pth} {out:List (List Act)} (h:∀ e ∈ out,C9i p e):∀ e ∈ G7 p out,C9i p e:=by
 unfold G7;simp only [B5]
 cases hq:decide (p.to_.col=0) with
 | true=>intro e he;rcases B2v he with he | he;exact h e he;exact .inr (.inr (.inr (.inr (.inr (.inl ⟨he,of_decide_eq_true hq⟩)))))
 | false=>intro e he;rcases B2v he with he | he;exact h e he;exact .inr (.inr (.inr (.inr (.inr (.inr ⟨he,of_decide_eq_false hq⟩)))))
theorem D9r {p:Pth} {out:List (List Act)} (h:∀ e ∈ out,C9i p e):∀ e ∈ G8 p out,C9i p e:=by
 unfold G8 J2;simp only [B5]
 cases hq:decide ((p.to_.col - p.frm.col)<0) with
 | true =>
  have hlt:p.to_.col<p.frm.col:=by have:=of_decide_eq_true hq;omega
  have h1:∀ e ∈ out++[N7 3 (-(p.to_.col - p.frm.col))],C9i p e:=fun e he=>by
   rcases B2v he with he | he
   ·exact h e he
   ·exact .inr (.inr (.inr (.inl ⟨he,hlt⟩)))
  cases decide ((-(p.to_.col - p.frm.col))≤4) with
  | true=>exact D3x (fun e he=>by
    rcases B2v he with he | he
    ·exact h1 e he
    ·exact .inr (.inr (.inr (.inr (.inl ⟨he,hlt⟩)))))
  | false=>exact D3x h1
 | false=>exact D3x h
theorem D6n {p:Pth}:∀ e ∈ H5 p,C9i p e:=by
 have hj:∀ {out:List (List Act)},(∀ e ∈ out,C9i p e)→∀ e ∈ J3 p out,C9i p e:=fun {out} h=>by
  have h1:∀ e ∈ out++[[{Act.zero with kind:=22,n:=p.to_.col+1}]],C9i p e:=fun e he=>by
   rcases B2v he with he | he
   ·exact h e he
   ·exact .inr (.inl he)
  unfold J3;simp only [B5]
  cases hq:decide ((0:Int)<(p.to_.col - p.frm.col)) with
  | true=>exact D9r (fun e he=>by
    rcases B2v he with he | he
    ·exact h1 e he
    ·exact .inr (.inr (.inl ⟨he,by have:=of_decide_eq_true hq;omega⟩)))
  | false=>exact D9r h1
 unfold H5
 cases hq:decide ((p.to_.col - p.frm.col)=0) with
 | true=>exact hj (fun e he=>by rw [show e=[] from List.mem_singleton.1 he];exact .inl ⟨rfl,by have:=of_decide_eq_true hq;omega⟩)
 | false=>exact hj (fun e he=>by cases he)
theorem D5h (c0:Pth) (el:List Act) (ag:List (List Act)) (Q:List Act→Prop) (hag:∀ e ∈ ag,Q e):∀ (A:List (List Act)) (t:Nat),(∀ a ∈ A,(el++a≠[]∨c0.frm.wrap=false)→Q (el++a))→∀ e ∈ F5 c0 el ag A t,Q e
 | [],_,_=>hag
 | a::A,t,h=>by
  have hr:=D5h c0 el ag Q hag A (t+1) (fun x hx=>h x (List.mem_cons_of_mem _ hx))
  rw [F5]
  cases hc:((decide (((el++a).length:Int)=0))&&c0.frm.wrap) with
  | true=>exact hr
  | false =>
   intro e he
   rcases List.mem_cons.1 he with rfl | he
   ·refine h a (List.mem_cons_self ..) ?_
    rcases Bool.and_eq_false_iff.1 hc with hc | hc
    ·left;intro h0;rw [h0] at hc;cases hc
    ·exact .inr hc
   ·exact hr e he
theorem C8n (c0:Pth) (Q:List Act→Prop) (hf:Q [{Act.zero with kind:=19,n:=c0.to_.row+1,m:=c0.to_.col+1}]):∀ (l:List (List Act)),(∀ d ∈ l,∀ a ∈ H5 c0,(d++a≠[]∨c0.frm.wrap=false)→Q (d++a))→∀ e ∈ C8 c0 l,Q e
 | [],_=>fun e he=>by rw [show e=_ from List.mem_singleton.1 he];exact hf
 | d::l,h=>by
  rw [C8];simp only [B5]
  exact D5h c0 d _ Q (C8n c0 Q hf l (fun x hx=>h x (List.mem_cons_of_mem _ hx))) _ 0 (h d (List.mem_cons_self ..))
theorem E0j (c0:Pth):∀ (l:List (List Act)),0<(C8 c0 l).length
 | []=>Nat.one_pos
 | d::l=>by
  have h:∀ (A:List (List Act)) (t:Nat),0<(F5 c0 d (C8 c0 l) A t).length:=fun A=>by
   induction A with
   | nil=>exact fun t=>E0j c0 l
   | cons a A ih =>
    intro t
    rw [F5]
    cases ((decide (((d++a).length:Int)=0))&&c0.frm.wrap) with
    | true=>exact ih _
    | false=>exact Nat.succ_pos _
  rw [C8];simp only [B5];exact h _ _
end Go.Proofs.YtanighkpfmgnbaaGreatDoor
set_option linter.unusedVariables false
set_option linter.unusedSimpArgs false
set_option linter.unnecessarySimpa false
set_option maxRecDepth 10000
namespace Go.Proofs.YtanighkpfmgnbaaGreatDoor
open Go Go.Fen
theorem B4p {n m:Int} (h:0≤n∧n≤3∧1≤m∧m≤100):P9 {Act.zero with kind:=20,n:=n,m:=m}=true:=by
 show ((((Q7 n 0 3)&&(R5 m))&&decide (Col.zero=Col.zero))&&decide (([]:List UInt8)=[]))=true
 unfold R5 Q7
 simp only [Bool.and_eq_true,decide_eq_true_eq,and_true]
 omega
theorem D8f {n:Int} (h:1≤n∧n≤100):P9 {Act.zero with kind:=22,n:=n}=true:=by
 show ((((R5 n)&&decide ((0:Int)=0))&&decide (Col.zero=Col.zero))&&decide (([]:List UInt8)=[]))=true
 unfold R5 Q7
 simp only [Bool.and_eq_true,decide_eq_true_eq,and_true]
 omega
theorem E0b {n m:Int} (h:1≤n∧n≤100∧1≤m∧m≤100):P9 {Act.zero with kind:=19,n:=n,m:=m}=true:=by
 show ((((R5 n)&&(R5 m))&&decide (Col.zero=Col.zero))&&decide (([]:List UInt8)=[]))=true
 unfold R5 Q7
 simp only [Bool.and_eq_true,decide_eq_true_eq,and_true]
 omega
theorem D1w:A5d []:=fun a ha=>by cases ha
theorem B0j {a:Act} (h:P9 a=true):A5d [a]:=fun b hb=>by rw [List.mem_singleton.1 hb];exact h
theorem B8v {n:Nat} {a:Act} (h:P9 a=true):A5d (List.replicate n a):=fun b hb=>by rw [List.eq_of_mem_replicate hb];exact h
theorem C9y {u v:List Act} (h:A5d u) (k:A5d v):A5d (u++v):=fun a ha=>by
 rcases List.mem_append.1 ha with ha | ha
 ·exact h a ha
 ·exact k a ha
theorem D7i {c0:Pth} (hb:0≤c0.frm.row∧c0.frm.row≤40∧0≤c0.to_.row∧c0.to_.row≤40) {e:List Act} (he:e ∈ F7 c0):A5d e:=by
 rcases C3o he with ⟨rfl,h⟩ | ⟨rfl,h⟩ | ⟨rfl,h⟩ | ⟨rfl,h⟩
 ·exact D1w
 ·exact B0j (B4p (by omega))
 ·exact B0j (B4p (by omega))
 ·rw [A4f];exact B8v rfl
theorem D2g {p:Pth} (hb:0≤p.frm.col∧p.frm.col≤80∧0≤p.to_.col∧p.to_.col≤80) {e:List Act} (he:e ∈ H5 p):A5d e:=by
 rcases D6n e he with ⟨rfl,h⟩ | rfl | ⟨rfl,h⟩ | ⟨rfl,h⟩ | ⟨rfl,h⟩ | ⟨rfl,h⟩ | ⟨rfl,h⟩
 ·exact D1w
 ·exact B0j (D8f (by omega))
 ·exact B0j (B4p (by omega))
 ·exact B0j (B4p (by omega))
 ·rw [A4f];exact B8v rfl
 ·rw [A4f];exact B8v rfl
 ·rw [A4f];exact C9y (B8v rfl) (B0j (B4p (by omega)))
theorem D5k {f:Cur} {t:Plc} (hb:(0≤f.row∧f.row≤40∧0≤t.row∧t.row≤40)∧(0≤f.col∧f.col≤80∧0≤t.col∧t.col≤80)):∀ e ∈ F0 ⟨f,t⟩,A5d e:=fun e he =>
 C8n ⟨f,t⟩ A5d (B0j (E0b (by show 1≤t.row+1∧t.row+1≤100∧1≤t.col+1∧t.col+1≤100;omega))) _ (fun d hd a ha _=>C9y (D7i hb.1 hd) (D2g hb.2 ha)) e he
theorem D7t {f:Cur} {t:Plc} (hb:(0≤f.row∧f.row≤40∧0≤t.row∧t.row≤40)∧(0≤f.col∧f.col≤80∧0≤t.col∧t.col≤80)):∀ e ∈ F0 ⟨f,t⟩,P7 e=(enc e,0):=fun e he=>by
 have h2:=(A9i (c0:=⟨f,t⟩) hb).1 e he
 exact D3z (Nat.le_trans h2.1 (by decide)) (fun a ha=>by have:=(h2.2 a ha).2;unfold E4s;omega) (D5k hb e he)
def B9l (e:List Act):Int:=((P7 e).1.length:Int)
theorem C6y {el:List Act} (h0:(P7 el).2=0) (l:List (List Act)) (w:List Act) (k:Int):H3 (el::l) w k=if 0≤k∧k≤B9l el then H3 l w k else H3 l el (B9l el):=by
 rw [H3];simp only [B5]
 rw [h0]
 unfold B9l
 by_cases h:0≤k∧k≤((P7 el).1.length:Int)
 ·rw [if_pos h,decide_eq_true h.1,decide_eq_true h.2];rfl
 ·rw [if_neg h,show ((!decide ((0:Int)=0))||((decide ((0:Int)≤k))&&(decide (k≤((P7 el).1.length:Int)))))=false by
   rw [show (!decide ((0:Int)=0))=false from rfl,Bool.false_or,Bool.and_eq_false_iff,decide_eq_false_iff_not,decide_eq_false_iff_not];omega];rfl
end Go.Proofs.YtanighkpfmgnbaaGreatDoor
