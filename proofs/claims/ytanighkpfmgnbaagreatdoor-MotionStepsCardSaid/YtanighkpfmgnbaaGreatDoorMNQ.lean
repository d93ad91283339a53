import Derived.Test.YtanighkpfmgnbaaGreatDoorMQ2
set_option linter.unusedVariables false
set_option linter.unusedSimpArgs false
set_option linter.unnecessarySimpa false
set_option maxRecDepth 10000
namespace Go.Proofs.YtanighkpfmgnbaaGreatDoor
open Go Go.Fen
theorem C9w:A3j=true:=by decide +kernel
theorem D3e {c r:Int} {f:Cur} (h:(2≤c∧c≤80∧1≤r∧r≤40)∧(0≤f.row∧f.row<r∧0≤f.col∧f.col<c)∧(f.wrap=true→f.col=c - 1)):A0b c r f=true:=by
 unfold A0b
 rw [show ((((((((decide (c<2))||(decide ((80:Int)<c)))||(decide (r<1)))||(decide ((40:Int)<r)))||(decide (f.row<0)))||(decide (r≤f.row)))||(decide (f.col<0)))||(decide (c≤f.col)))=false by simp only [Bool.or_eq_false_iff,decide_eq_false_iff_not];omega]
 rw [B7o (by show (-9223372036854775808:Int)≤_;omega) (by show _≤(9223372036854775807:Int);omega)]
 cases hw:f.wrap with
 | false=>rfl
 | true=>exact decide_eq_true (h.2.2 hw)
theorem C2u {c r:Int} {p:Pth} (h:D6 c r p≠0):D6 c r p=2:=by
 revert h;unfold D6
 cases ((((!decide ((R0 c r)=0))||(!(G4 p.frm.row p.frm.col r c)))||(!(G4 p.to_.row p.to_.col r c)))||(p.frm.wrap&&(!decide (p.frm.col=(IntKind.i64.wrap (c - (1:Int))))))) with
 | true=>exact fun _=>rfl
 | false=>exact fun h=>absurd rfl h
end Go.Proofs.YtanighkpfmgnbaaGreatDoor
set_option linter.unusedVariables false
set_option linter.unusedSimpArgs false
set_option linter.unnecessarySimpa false
set_option maxRecDepth 10000
namespace Go.Proofs.YtanighkpfmgnbaaGreatDoor
open Go Go.Fen
theorem C3t {c0:Pth} {e:List Act} (he:e ∈ H0 c0) :
  (e=[]∧c0.frm.row=c0.to_.row)∨(e=I7 0 (c0.frm.row - c0.to_.row)∧c0.to_.row<c0.frm.row)∨(e=I7 1 (c0.to_.row - c0.frm.row)∧c0.frm.row<c0.to_.row)∨(e=I5 5 (c0.to_.row - c0.frm.row)∧c0.frm.row<c0.to_.row):=by
 revert he;unfold H0;simp only [D5];intro he
 rcases Int.lt_trichotomy c0.frm.row c0.to_.row with h | h | h
 ·rw [decide_eq_false (show ¬ c0.to_.row - c0.frm.row=0 by omega),decide_eq_false (show ¬ c0.to_.row - c0.frm.row<0 by omega)] at he
  have he:e ∈ I7 1 (c0.to_.row - c0.frm.row)::(bif decide (c0.to_.row - c0.frm.row≤4) then [I5 5 (c0.to_.row - c0.frm.row)] else []):=he
  rcases List.mem_cons.1 he with he | he
  ·exact .inr (.inr (.inl ⟨he,h⟩))
  ·cases hd:decide (c0.to_.row - c0.frm.row≤4) with
   | true=>rw [hd] at he;exact .inr (.inr (.inr ⟨List.mem_singleton.1 he,h⟩))
   | false=>rw [hd] at he;cases he
 ·rw [decide_eq_true (show c0.to_.row - c0.frm.row=0 by omega)] at he
  exact .inl ⟨List.mem_singleton.1 he,h⟩
 ·rw [decide_eq_false (show ¬ c0.to_.row - c0.frm.row=0 by omega),decide_eq_true (show c0.to_.row - c0.frm.row<0 by omega),show -(c0.to_.row - c0.frm.row)=c0.frm.row - c0.to_.row by omega] at he
  exact .inr (.inl ⟨List.mem_singleton.1 he,h⟩)
theorem A6u {α:Type} {x y:α} {l:List α} (h:x ∈ l++[y]):x ∈ l∨x=y:=by
 rcases List.mem_append.1 h with h | h
 ·exact .inl h
 ·exact .inr (List.mem_singleton.1 h)
def B9u (p:Pth) (e:List Act):Prop :=
 (e=[]∧p.frm.col=p.to_.col)∨e=[{Act.zero with kind:=22,n:=p.to_.col+1}]∨(e=I7 2 (p.to_.col - p.frm.col)∧p.frm.col<p.to_.col)∨(e=I7 3 (-(p.to_.col - p.frm.col))∧p.to_.col<p.frm.col) ∨
  (e=I5 3 (-(p.to_.col - p.frm.col))∧p.to_.col<p.frm.col)∨(e=I5 6 1∧p.to_.col=0)∨(e=I5 6 1++I7 2 p.to_.col∧p.to_.col≠0)
theorem C3d {p:Pth} {out:List (List Act)} (h:∀ e ∈ out,B9u p e):∀ e ∈ G9 p out,B9u p e:=by
 unfold G9;simp only [D5]
 cases hq:decide (p.to_.col=0) with
 | true=>intro e he;rcases A6u he with he | he;exact h e he;exact .inr (.inr (.inr (.inr (.inr (.inl ⟨he,of_decide_eq_true hq⟩)))))
 | false=>intro e he;rcases A6u he with he | he;exact h e he;exact .inr (.inr (.inr (.inr (.inr (.inr ⟨he,of_decide_eq_false hq⟩)))))
theorem C7s {p:Pth} {out:List (List Act)} (h:∀ e ∈ out,B9u p e):∀ e ∈ G8 p out,B9u p e:=by
 unfold G8 H6;simp only [D5]
 cases hq:decide ((p.to_.col - p.frm.col)<0) with
 | true =>
  have hlt:p.to_.col<p.frm.col:=by have:=of_decide_eq_true hq;omega
  have h1:∀ e ∈ out++[I7 3 (-(p.to_.col - p.frm.col))],B9u p e:=fun e he=>by
   rcases A6u he with he | he
   ·exact h e he
   ·exact .inr (.inr (.inr (.inl ⟨he,hlt⟩)))
  cases decide ((-(p.to_.col - p.frm.col))≤4) with
  | true=>exact C3d (fun e he=>by
    rcases A6u he with he | he
    ·exact h1 e he
    ·exact .inr (.inr (.inr (.inr (.inl ⟨he,hlt⟩)))))
  | false=>exact C3d h1
 | false=>exact C3d h
theorem C9c {p:Pth}:∀ e ∈ K2 p,B9u p e:=by
 have hj:∀ {out:List (List Act)},(∀ e ∈ out,B9u p e)→∀ e ∈ J8 p out,B9u p e:=fun {out} h=>by
  have h1:∀ e ∈ out++[[{Act.zero with kind:=22,n:=p.to_.col+1}]],B9u p e:=fun e he=>by
   rcases A6u he with he | he
   ·exact h e he
   ·exact .inr (.inl he)
  unfold J8;simp only [D5]
  cases hq:decide ((0:Int)<(p.to_.col - p.frm.col)) with
  | true=>exact C7s (fun e he=>by
    rcases A6u he with he | he
    ·exact h1 e he
    ·exact .inr (.inr (.inl ⟨he,by have:=of_decide_eq_true hq;omega⟩)))
  | false=>exact C7s h1
 unfold K2
 cases hq:decide ((p.to_.col - p.frm.col)=0) with
 | true=>exact hj (fun e he=>by rw [show e=[] from List.mem_singleton.1 he];exact .inl ⟨rfl,by have:=of_decide_eq_true hq;omega⟩)
 | false=>exact hj (fun e he=>by cases he)
theorem C4w (c0:Pth) (el:List Act) (ag:List (List Act)) (Q:List Act→Prop) (hag:∀ e ∈ ag,Q e):∀ (A:List (List Act)) (t:Nat),(∀ a ∈ A,(el++a≠[]∨c0.frm.wrap=false)→Q (el++a))→∀ e ∈ F5 c0 el ag A t,Q e
 | [],_,_=>hag
 | a::A,t,h=>by
  have hr:=C4w c0 el ag Q hag A (t+1) (fun x hx=>h x (List.mem_cons_of_mem _ hx))
  rw [F5]
  cases hc:((decide (((el++a).length:Int)=0))&&c0.frm.wrap) with
  | true=>exact hr
  | false =>
   intro e he
   rcases List.mem_cons.1 he with rfl | he
   ·refine h a (List.mem_cons_self ..) ?_
    rcases Bool.and_eq_false_iff.1 hc with hc | hc
    ·left;intro h0;rw [h0] at hc;cases hc
    ·exact .inr hc
   ·exact hr e he
theorem C4r (c0:Pth) (Q:List Act→Prop) (hf:Q [{Act.zero with kind:=19,n:=c0.to_.row+1,m:=c0.to_.col+1}]):∀ (l:List (List Act)),(∀ d ∈ l,∀ a ∈ K2 c0,(d++a≠[]∨c0.frm.wrap=false)→Q (d++a))→∀ e ∈ C9 c0 l,Q e
 | [],_=>fun e he=>by rw [show e=_ from List.mem_singleton.1 he];exact hf
 | d::l,h=>by
  rw [C9];simp only [D5]
  exact C4w c0 d _ Q (C4r c0 Q hf l (fun x hx=>h x (List.mem_cons_of_mem _ hx))) _ 0 (h d (List.mem_cons_self ..))
theorem C8i (c0:Pth):∀ (l:List (List Act)),0<(C9 c0 l).length
 | []=>Nat.one_pos
 | d::l=>by
  have h:∀ (A:List (List Act)) (t:Nat),0<(F5 c0 d (C9 c0 l) A t).length:=fun A=>by
   induction A with
   | nil=>exact fun t=>C8i c0 l
   | cons a A ih =>
    intro t
    rw [F5]
    cases ((decide (((d++a).length:Int)=0))&&c0.frm.wrap) with
    | true=>exact ih _
    | false=>exact Nat.succ_pos _
  rw [C9];simp only [D5];exact h _ _
end Go.Proofs.YtanighkpfmgnbaaGreatDoor
set_option linter.unusedVariables false
set_option linter.unusedSimpArgs false
set_option linter.unnecessarySimpa false
set_option maxRecDepth 10000
namespace Go.Proofs.YtanighkpfmgnbaaGreatDoor
open Go Go.Fen
def B3u (c r:Int):List Act→Cur→Cur→Prop
 | [],s,e=>s=e
 | a::w,s,e=>A0b c r (P5 c r s a)=true∧B3u c r w (P5 c r s a) e
theorem B8b {c r:Int}:∀ {u v:List Act} {s m e:Cur},B3u c r u s m→B3u c r v m e→B3u c r (u++v) s e
 | [],_,_,_,_,h,k=>by rw [show _=_ from h];exact k
 | _::_,_,_,_,_,h,k=>⟨h.1,B8b h.2 k⟩
theorem A1y {c r:Int} {a:Act} {s e:Cur} (h:P5 c r s a=e) (hi:A0b c r e=true):B3u c r [a] s e:=⟨by rw [h];exact hi,h⟩
def inB (c r:Int) (s:Cur):Prop:=(2≤c∧c≤80∧1≤r∧r≤40)∧(0≤s.row∧s.row<r∧0≤s.col∧s.col<c)
theorem A9j {c r row col:Int} (h:inB c r ⟨row,col,false⟩):A0b c r ⟨row,col,false⟩=true:=D3e ⟨h.1,h.2,fun e=>by cases e⟩
theorem C3w {n:Nat} {a:Act} (h:n≠0):decide (List.replicate n a=[])=false:=decide_eq_false (by rw [List.replicate_eq_nil_iff];exact h)
theorem B9j {c r:Int}:∀ (n:Nat) (s:Cur),inB c r s→s.row+n<r→n≠0→B3u c r (List.replicate n {Act.zero with kind:=5}) s ⟨s.row+n,s.col,false⟩
 | 0,_,_,_,h=>absurd rfl h
 | n+1,s,hb,hn,_=>by
  have hs:P5 c r s {Act.zero with kind:=5}=⟨s.row+1,s.col,false⟩:=rfl
  have hi:inB c r ⟨s.row+1,s.col,false⟩:=by unfold inB at *;refine ⟨hb.1,?_⟩;show 0≤s.row+1∧s.row+1<r∧0≤s.col∧s.col<c;omega
  rw [List.replicate_succ]
  refine ⟨by rw [hs];exact A9j hi,?_⟩
  rw [hs]
  rcases Nat.eq_zero_or_pos n with h0 | h0
  ·subst h0;rfl
  ·have h:=B9j n ⟨s.row+1,s.col,false⟩ hi (by show s.row+1+(n:Int)<r;omega) (by omega)
   rw [show (⟨s.row+((n+1:Nat):Int),s.col,false⟩:Cur)=⟨(⟨s.row+1,s.col,false⟩:Cur).row+n,(⟨s.row+1,s.col,false⟩:Cur).col,false⟩ by show (⟨s.row+((n+1:Nat):Int),s.col,false⟩:Cur)=⟨s.row+1+n,s.col,false⟩;rw [show s.row+((n+1:Nat):Int)=s.row+1+n by omega]]
   exact h
theorem B8z {c r:Int}:∀ (n:Nat) (s:Cur),inB c r s→0≤s.col - n→n≠0→B3u c r (List.replicate n {Act.zero with kind:=3}) s ⟨s.row,s.col - n,false⟩
 | 0,_,_,_,h=>absurd rfl h
 | n+1,s,hb,hn,_=>by
  have hs:P5 c r s {Act.zero with kind:=3}=⟨s.row,s.col - 1,false⟩:=rfl
  have hi:inB c r ⟨s.row,s.col - 1,false⟩:=by unfold inB at *;refine ⟨hb.1,?_⟩;show 0≤s.row∧s.row<r∧0≤s.col - 1∧s.col - 1<c;omega
  rw [List.replicate_succ]
  refine ⟨by rw [hs];exact A9j hi,?_⟩
  rw [hs]
  rcases Nat.eq_zero_or_pos n with h0 | h0
  ·subst h0;rfl
  ·have h:=B8z n ⟨s.row,s.col - 1,false⟩ hi (by show 0≤s.col - 1 - (n:Int);omega) (by omega)
   rw [show (⟨s.row,s.col - ((n+1:Nat):Int),false⟩:Cur)=⟨(⟨s.row,s.col - 1,false⟩:Cur).row,(⟨s.row,s.col - 1,false⟩:Cur).col - n,false⟩ by show (⟨s.row,s.col - ((n+1:Nat):Int),false⟩:Cur)=⟨s.row,s.col - 1 - n,false⟩;rw [show s.col - ((n+1:Nat):Int)=s.col - 1 - n by omega]]
   exact h
theorem C5x {c r:Int} {f:Cur} {t:Plc} (hf:inB c r f) (ht:0≤t.row∧t.row<r) {e:List Act} (he:e ∈ H0 ⟨f,t⟩):B3u c r e f ⟨t.row,f.col,f.wrap&&decide (e=[])⟩:=by
 have hi:inB c r ⟨t.row,f.col,false⟩:=⟨hf.1,ht.1,ht.2,hf.2.2.2⟩
 rcases C3t he with ⟨rfl,h⟩ | ⟨rfl,h⟩ | ⟨rfl,h⟩ | ⟨rfl,h⟩
 ·show f=_
  rw [decide_eq_true rfl,Bool.and_true,← (show f.row=t.row from h)]
 ·rw [show decide (I7 0 (f.row - t.row)=[])=false from decide_eq_false (by intro h;cases h),Bool.and_false]
  exact A1y (show (⟨f.row+-(f.row - t.row),f.col+0,false⟩:Cur)=_ by rw [Int.add_zero,show f.row+-(f.row - t.row)=t.row by omega]) (A9j hi)
 ·rw [show decide (I7 1 (t.row - f.row)=[])=false from decide_eq_false (by intro h;cases h),Bool.and_false]
  exact A1y (show (⟨f.row+(t.row - f.row),f.col+0,false⟩:Cur)=_ by rw [Int.add_zero,show f.row+(t.row - f.row)=t.row by omega]) (A9j hi)
 ·have h:f.row<t.row:=h
  rw [A8h]
  have h1:=B9j (t.row - f.row).toNat f hf (by omega) (by omega)
  rw [show f.row+((t.row - f.row).toNat:Int)=t.row by omega] at h1
  rw [C3w (show (t.row - f.row).toNat≠0 by omega),Bool.and_false]
  exact h1
theorem C1o {c r:Int} {f:Cur} {t:Plc} {w:Bool} (hb:2≤c∧c≤80∧1≤r∧r≤40) (hf:0≤f.col∧f.col<c) (ht:0≤t.row∧t.row<r∧0≤t.col∧t.col<c) {e:List Act} (he:e ∈ K2 ⟨f,t⟩) :
  B3u c r e ⟨t.row,f.col,w⟩ ⟨t.row,t.col,w&&decide (e=[])⟩:=by
 have hs:inB c r ⟨t.row,f.col,w⟩:=⟨hb,ht.1,ht.2.1,hf⟩
 have hi:inB c r ⟨t.row,t.col,false⟩:=⟨hb,ht⟩
 have hz:inB c r ⟨t.row,0,false⟩:=⟨hb,ht.1,ht.2.1,by show (0:Int)≤0;omega,by show 0<c;omega⟩
 rcases C9c e he with ⟨rfl,h⟩ | rfl | ⟨rfl,h⟩ | ⟨rfl,h⟩ | ⟨rfl,h⟩ | ⟨rfl,h⟩ | ⟨rfl,h⟩
 ·show (⟨t.row,f.col,w⟩:Cur)=_
  rw [decide_eq_true rfl,Bool.and_true,show f.col=t.col from h]
 ·rw [decide_eq_false (by intro h;cases h),Bool.and_false]
  exact A1y (show (⟨t.row,t.col+1 - 1,false⟩:Cur)=_ by rw [show t.col+1 - 1=t.col by omega]) (A9j hi)
 ·rw [show decide (I7 2 (t.col - f.col)=[])=false from decide_eq_false (by intro h;cases h),Bool.and_false]
  exact A1y (show (⟨t.row+0,f.col+(t.col - f.col),false⟩:Cur)=_ by rw [Int.add_zero,show f.col+(t.col - f.col)=t.col by omega]) (A9j hi)
 ·rw [show decide (I7 3 (-(t.col - f.col))=[])=false from decide_eq_false (by intro h;cases h),Bool.and_false]
  exact A1y (show (⟨t.row+0,f.col+-(-(t.col - f.col)),false⟩:Cur)=_ by rw [Int.add_zero,show f.col+-(-(t.col - f.col))=t.col by omega]) (A9j hi)
 ·have h:t.col<f.col:=h
  show B3u c r (I5 3 (-(t.col - f.col))) _ ⟨_,_,w&&decide (I5 3 (-(t.col - f.col))=[])⟩
  rw [A8h]
  have h1:=B8z (-(t.col - f.col)).toNat ⟨t.row,f.col,w⟩ hs (by show 0≤f.col - ((-(t.col - f.col)).toNat:Int);omega) (by omega)
  rw [show (⟨t.row,f.col,w⟩:Cur).col - ((-(t.col - f.col)).toNat:Int)=t.col by show f.col - ((-(t.col - f.col)).toNat:Int)=t.col;omega] at h1
  rw [C3w (show (-(t.col - f.col)).toNat≠0 by omega),Bool.and_false]
  exact h1
 ·have h:t.col=0:=h
  rw [A8h,C3w (show (1:Int).toNat≠0 by decide),Bool.and_false]
  exact A1y (show (⟨t.row,0,false⟩:Cur)=_ by rw [h]) (A9j hi)
 ·have hne:∀ x:List Act,decide (I5 6 1++x=[])=false:=fun x=>by rw [A8h];exact decide_eq_false (by intro h;cases h)
  rw [hne,Bool.and_false,A8h]
  refine B8b (m:=⟨t.row,0,false⟩) (A1y rfl (A9j hz)) ?_
  exact A1y (show (⟨t.row+0,0+t.col,false⟩:Cur)=_ by rw [Int.add_zero,Int.zero_add]) (A9j hi)
theorem C9l {c r:Int} {f:Cur} {t:Plc} (hb:2≤c∧c≤80∧1≤r∧r≤40) (hf:0≤f.row∧f.row<r∧0≤f.col∧f.col<c) (ht:0≤t.row∧t.row<r∧0≤t.col∧t.col<c):∀ e ∈ J5 ⟨f,t⟩,B3u c r e f ⟨t.row,t.col,false⟩:=by
 refine C4r ⟨f,t⟩ _ ?_ _ ?_
 ·exact A1y (show (⟨t.row+1 - 1,t.col+1 - 1,false⟩:Cur)=_ by rw [show t.row+1 - 1=t.row by omega,show t.col+1 - 1=t.col by omega]) (A9j ⟨hb,ht⟩)
 ·intro d hd a ha hk
  have h1:=C5x ⟨hb,hf⟩ ⟨ht.1,ht.2.1⟩ hd
  have h2:=C1o (w:=f.wrap&&decide (d=[])) hb ⟨hf.2.2.1,hf.2.2.2⟩ ht ha
  have h3:=B8b h1 h2
  have hw:((f.wrap&&decide (d=[]))&&decide (a=[]))=false:=by
   rcases hk with hk | hk
   ·cases d with
    | nil =>
     cases a with
     | nil=>exact absurd rfl hk
     | cons x a=>rw [decide_eq_false (show ¬ x::a=[] by intro h;cases h),Bool.and_false]
    | cons x d=>rw [decide_eq_false (show ¬ x::d=[] by intro h;cases h),Bool.and_false,Bool.false_and]
   ·rw [show f.wrap=false from hk,Bool.false_and,Bool.false_and]
  rw [hw] at h3;exact h3
theorem C2e (c r:Int) (t:Plc) (k:Nat) (ag:Nat→Bool):∀ (w:List Act) (j:Nat) (s:Cur),B3u c r w s ⟨t.row,t.col,false⟩→K7 c r t k ag w j s=ag (k+1)
 | [],j,s,h=>by
  rw [K7,show s=_ from h,decide_eq_true (show (⟨t.row,t.col,false⟩:Cur)={Cur.zero with row:=t.row,col:=t.col} from rfl)];rfl
 | a::w,j,s,h=>by
  rw [K7,h.1]
  exact C2e c r t k ag w (j+1) _ h.2
theorem C1q (c r:Int) (f:Cur) (t:Plc) (R:List (List Act)×Int) (hR:0<R.1.length):∀ (l:List (List Act)) (k:Nat),(∀ e ∈ l,B3u c r e f ⟨t.row,t.col,false⟩)→K1 c r f t R l k=true
 | [],k,_=>by rw [K1];exact decide_eq_true (by omega)
 | w::l,k,h=>by
  rw [K1,C2e c r t k _ w 0 f (h w (List.mem_cons_self ..))]
  exact C1q c r f t R hR l (k+1) (fun e he=>h e (List.mem_cons_of_mem _ he))
theorem B5m (c r:Int) (f:Cur) (t:Plc):Z4 c r f t=true:=by
 unfold Z4
 rw [C9w];simp only [D5]
 rw [C0i]
 by_cases h0:D6 c r ⟨f,t⟩=0
 ·have hb:=B2h (c:=c) (r:=r) (p:=⟨f,t⟩) (by rw [h0];rfl)
  rw [h0]
  exact C1q c r f t _ (C8i _ _) _ 0 (C9l hb.1 hb.2.1 hb.2.2.1)
 ·rw [C2u h0];rfl
end Go.Proofs.YtanighkpfmgnbaaGreatDoor
