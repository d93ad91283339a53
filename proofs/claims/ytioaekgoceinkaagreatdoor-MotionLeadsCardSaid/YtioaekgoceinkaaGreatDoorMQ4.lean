import Derived.Test.YtioaekgoceinkaaGreatDoorProg
import Derived.Test.YtioaekgoceinkaaGreatDoorMQ3
import Derived.Test.YtioaekgoceinkaaGreatDoorMA2
import Derived.Test.YtioaekgoceinkaaGreatDoorMB1
import Derived.Test.YtioaekgoceinkaaGreatDoorMA3
import Derived.Test.YtioaekgoceinkaaGreatDoorMB2
import Derived.Test.YtioaekgoceinkaaGreatDoorMB3
import Derived.Test.YtioaekgoceinkaaGreatDoorMQ1
import Derived.Test.YtioaekgoceinkaaGreatDoorMQ2
set_option linter.unusedVariables false
set_option linter.unusedSimpArgs false
namespace Go.Proofs.YtioaekgoceinkaaGreatDoor
open Go Go.Fen
theorem D1r {x:Cel} {l:List Cel} {n m:Nat} (h:l.take n=List.replicate n x) (a:m≤n):l.take m=List.replicate m x:=by
 rw [← Nat.min_eq_left a,← List.take_take,h,List.take_replicate]
theorem B9t (x:Cel) (N:Nat):∀ (d:Nat) (l:List Cel) (n:Nat),l.length=N→1≤n→N - n<d→l.take n=List.replicate (min n N) x→H2 d l n=List.replicate N x
 | 0,l,n,hl,hn,hf,ht=>by omega
 | d+1,l,n,hl,hn,hf,ht=>by
  simp only [H2]
  by_cases c:(n:Int)<(l.length:Int)
  ·rw [decide_eq_true c,cond_true]
   have g:n<N:=by omega
   rw [Nat.min_eq_left opx] at ht
   have a:(l.take n++(l.take (min n (l.length - n))++l.drop (n+min n (l.length - n)))).length=N:=by
    simp only [List.length_append,List.length_take,List.length_drop];omega
   refine B9t x N d _ _ a opx opx ?_
   have f:=Nat.min_le_left n (l.length - n)
   have e:=Nat.min_le_right n (l.length - n)
   generalize min n (l.length - n)=m at f e ⊢
   rw [ht,D1r ht f,Nat.min_eq_left (b:=N) opx,← List.append_assoc,List.replicate_append_replicate,List.take_append_of_le_length oom,List.take_of_length_le oom]
  ·rw [decide_eq_false c,cond_false]
   rw [List.take_of_length_le opx,Nat.min_eq_right opx] at ht;exact ht
theorem D5c (x:Cel) (c:Int) (a:2≤c∧c≤80):N2 [x] c=List.replicate c.toNat x:=by
 unfold N2 C9
 rw [show ([x]:List Cel).length=1 from rfl,D3q 1 c rfl opx]
 show H2 (_ - (min 1 (List.replicate ((IntKind.i64.wrap c).toNat) Cel.zero).length)+1) (List.take (List.replicate ((IntKind.i64.wrap c).toNat) Cel.zero).length [x]++List.drop 1 (List.replicate ((IntKind.i64.wrap c).toNat) Cel.zero)) (min 1 (List.replicate ((IntKind.i64.wrap c).toNat) Cel.zero).length)=_
 rw [wr6 opx,List.length_replicate,Nat.min_eq_left opx,List.take_of_length_le (by simp;omega)]
 refine B9t x c.toNat _ _ 1 (by simp;omega) opx oom ?_
 rw [Nat.min_eq_left opx];rfl
theorem E0z:N4 Sty.zero=0:=by decide +kernel
theorem D2w (c:Int) (a:2≤c∧c≤80):B8s c Sty.zero=(List.replicate c.toNat (M8 Sty.zero),false,0):=by
 unfold B8s
 rw [E0z,decide_eq_false opx,decide_eq_false opx]
 simp only [Bool.or_self,decide_true,Bool.not_true,cond_false,C9];rw [D5c _ _ a]
theorem C0h (w:Int) (c:2≤w∧w≤80):∀ (a l:List (Rwc Cel)) (t:Nat),l.length=t+a.length→l.take t=List.replicate t ⟨List.replicate w.toNat (M8 Sty.zero),false⟩ →
  S0 w Sty.zero a l t=List.replicate (t+a.length) ⟨List.replicate w.toNat (M8 Sty.zero),false⟩
 | [],l,t,hl,ht=>by
  simp only [S0]
  rw [List.take_of_length_le (by simp at hl;omega)] at ht;exact ht
 | _::a,l,t,hl,ht=>by
  simp only [S0,C9]
  rw [D2w w c,C0h w c a _ (t+1) (by simp at hl ⊢;omega) ?_]
  ·simp [Nat.add_assoc,Nat.add_comm 1]
  ·have b:t<l.length:=by simp at hl;omega
   rw [List.take_add_one,List.take_set_of_le (Nat.le_refl _),ht,List.getElem?_set_self b,List.replicate_succ'];rfl
theorem D1h (c r:Int) (a:2≤c∧c≤80) (hr:1≤r∧r≤40):A2d c r Sty.zero=(List.replicate r.toNat ⟨List.replicate c.toNat (M8 Sty.zero),false⟩,0):=by
 unfold A2d
 rw [E0z,decide_eq_false opx,decide_eq_false opx,decide_eq_false opx,decide_eq_false opx]
 simp only [Bool.or_self,decide_true,Bool.not_true,cond_false,C9]
 unfold A4y
 rw [C0h c a _ _ 0 oom rfl]
 simp
theorem C7t (c:Int):∀ (a:Nat) (t:List Bool) (k:Nat),(A0i c a t k).2=0
 | 0,_,_=>rfl
 | a+1,t,k=>by
  simp only [A0i]
  cases decide ((k:Int)<c) with
  | true=>exact C7t c a _ _
  | false=>rfl
theorem E1v (c:Int) (a:2≤c∧c≤80):(A1y c).2=0:=by
 unfold A1y
 rw [decide_eq_false opx,decide_eq_false opx];exact C7t _ _ _ _
theorem w64 {x:Int} (h:-1000000≤x∧x≤1000000):IntKind.i64.wrap x=x:=wr6 h
theorem C2e (c:Int):∀ (a:Nat) (t:List Bool) (k:Nat),(c - (k:Int)).toNat<a→(A0i c a t k).1.length=t.length
 | 0,_,_,h=>by omega
 | a+1,t,k,h=>by
  simp only [A0i]
  by_cases q:(k:Int)<c
  ·rw [decide_eq_true q,cond_true,C2e c a _ _ opx,List.length_set]
  ·rw [decide_eq_false q];rfl
theorem D7q (c:Int) (a:2≤c∧c≤80):((A1y c).1.length:Int)=c:=by
 unfold A1y
 rw [decide_eq_false opx,decide_eq_false opx]
 show ((A0i c _ _ _).1.length:Int)=c
 rw [C2e _ _ _ _ opx,List.length_replicate];omega
theorem B6x (c r:Int) (a:2≤c∧c≤80) (hr:1≤r∧r≤40):R1 c r=({ScrC.zero with cols:=c,rows:=r,modes:=A2e,bottom:=r - 1},
  List.replicate r.toNat ⟨List.replicate c.toNat (M8 Sty.zero),false⟩,List.replicate r.toNat ⟨List.replicate c.toNat (M8 Sty.zero),false⟩,(A1y c).1,0):=by
 unfold R1 C9
 rw [D1h c r a hr]
 simp only [decide_true,Bool.not_true,cond_false,E1v c a]
 rw [w64 opx]
theorem B8n:∀ (k t:Nat) (last:Cel),last.wide=0→A0m (List.replicate k (M8 Sty.zero)) t last=0
 | 0,t,last,h=>by simp [A0m,h]
 | k+1,t,last,h=>by
  rw [List.replicate_succ]
  simp only [A0m]
  rw [show A6s (M8 Sty.zero)=0 by decide +kernel,h,show (M8 Sty.zero).wide=0 from rfl]
  exact B8n k (t+1) _ rfl
theorem D5r (c:Int) (a:2≤c∧c≤80) (b:Bool):A4t (List.replicate c.toNat (M8 Sty.zero)) b=0:=by
 unfold A4t
 rw [List.length_replicate,decide_eq_false opx,decide_eq_false opx]
 exact B8n _ _ _ rfl
theorem C3s (g:List (Rwc Cel)):∀ (l:List (Rwc Cel)) (t:Nat),(∀ r ∈ l,A4t r.l r.b=0∧(r.l.length:Int)=A9c g)→Y5 g l t=0
 | [],t,h=>rfl
 | a::l,t,h=>by
  simp only [Y5]
  obtain ⟨c,d⟩:=h a (List.mem_cons_self ..)
  rw [c,decide_eq_true d]
  exact C3s g l (t+1) fun r hr=>h r (List.mem_cons_of_mem _ hr)
theorem D1t {s:ScrC} {m a:List (Rwc Cel)} {t:List Bool} {g:List (Rwc Cel)} (hr:(g.length:Int)=s.rows) (e:1≤s.rows∧s.rows≤40) (h:∀ r ∈ g,A4t r.l r.b=0∧(r.l.length:Int)=s.cols):J1 s m a t g=true:=by
 have c:0<g.length:=by omega
 have d:((g.getD 0 zwc).l.length:Int)=s.cols:=by
  have:g.getD 0 zwc=g[0]:=by simp [List.getD_eq_getElem?_getD,c]
  rw [this];exact (h _ (List.getElem_mem c)).2
 unfold J1 A4r
 rw [decide_eq_false (show ¬ (g.length:Int)<1 by omega),decide_eq_false (show ¬ 40<(g.length:Int) by omega),decide_eq_true hr,decide_eq_true d]
 show (decide (Y5 g g 0=0)&&true&&true)=true
 rw [C3s g g 0 fun r hr=>⟨(h r hr).1,(h r hr).2.trans (by unfold A9c;exact d.symm)⟩];rfl
theorem D6r {s:ScrC} {m a:List (Rwc Cel)} {t:List Bool} (i:C2 s.rows s.cols s.top s.bottom s.modes.origin s.cursor=0) (o:M9 s.rows s.cols s.top s.bottom s.modes.origin s.kept=0)
  (n:M9 s.rows s.cols s.top s.bottom s.modes.origin s.keptAlt=0) (f:J1 s m a t m=true) (k:J1 s m a t a=true) (p:2≤s.cols∧s.cols≤80) (h:(t.length:Int)=s.cols)
  (l:N4 s.style=0) (g:A0x s.sets=0) (d:A6k s.modes=0) (j:0≤s.shape∧s.shape≤6) (c:J3 {Act.zero with kind:=44,text:=s.title}=0) (b:s.last=0):Y4 s m a t=0:=by
 have e:A3l s.cols=0:=by unfold A3l;rw [decide_eq_false opx,decide_eq_false opx];rfl
 unfold Y4 A1e A0 C9
 simp only [i,o,n,decide_true,Bool.not_true,cond_false]
 unfold Q6
 simp only [f,k,e,h,decide_true,Bool.not_true,cond_false]
 unfold O7
 simp only [l,g,d,decide_true,Bool.not_true,cond_false]
 unfold Q9
 rw [decide_eq_false (show ¬ s.shape<0 by omega),decide_eq_false (show ¬ 6<s.shape by omega),c,b]
 rfl
theorem C3h {r c:Int} (a:2≤c∧c≤80) (hr:1≤r∧r≤40):V2 r c 0 (r - 1) false=0:=by
 unfold V2
 rw [decide_eq_true (show (1:Int)≤r by omega),decide_eq_true (show r≤40 by omega),decide_eq_true a.1,decide_eq_true a.2,decide_eq_true (show r - 1<r by omega),decide_eq_false (show ¬ r - 1<0 by omega)]
 by_cases h:r=1
 ·subst h;rfl
 ·rw [decide_eq_true (show (0:Int)<r - 1 by omega)];rfl
theorem A5h {n a b:Int} (h:a≤n∧n≤b):J2 n a b=n:=by
 unfold J2
 rw [if_neg (show ¬ b<n by omega)]
 split<;>omega
theorem E3e {r c:Int} (b:2≤c∧c≤80) (hr:1≤r∧r≤40) {u:Cur} (d:0≤u.row∧u.row<r) (e:0≤u.col∧u.col<c) (a:u.wrap=false):C2 r c 0 (r - 1) false u=0:=by
 unfold C2 P6 H4
 rw [C3h b hr,w64 (show -1000000≤r - 1∧r - 1≤1000000 by omega),w64 (show -1000000≤c - 1∧c - 1≤1000000 by omega),A5h (show 0≤u.row∧u.row≤r - 1 by omega),A5h (show 0≤u.col∧u.col≤c - 1 by omega),a]
 simp
theorem C7u {r c:Int} (a:2≤c∧c≤80) (hr:1≤r∧r≤40):M9 r c 0 (r - 1) false Sav.zero=0:=by
 unfold M9
 rw [C3h a hr,E3e a hr (u:=Sav.zero.cursor) ⟨by decide,show (0:Int)<r by omega⟩ ⟨by decide,show (0:Int)<c by omega⟩ rfl]
 simp [Sav.zero]
theorem E1s:J3 {Act.zero with kind:=44,text:=[]}=0:=by decide +kernel
theorem D3k {c0:Pth} {e:List Act} (a:e ∈ I9 c0) :
  (e=[]∧c0.frm.row=c0.to_.row)∨(e=O5 0 (c0.frm.row - c0.to_.row)∧c0.to_.row<c0.frm.row)∨(e=O5 1 (c0.to_.row - c0.frm.row)∧c0.frm.row<c0.to_.row)∨(e=N5 5 (c0.to_.row - c0.frm.row)∧c0.frm.row<c0.to_.row):=by
 revert a;unfold I9;simp only [C9];intro a
 rcases Int.lt_trichotomy c0.frm.row c0.to_.row with h | h | h
 ·rw [decide_eq_false (show ¬ c0.to_.row - c0.frm.row=0 by omega),decide_eq_false (show ¬ c0.to_.row - c0.frm.row<0 by omega)] at a
  have a:e ∈ O5 1 (c0.to_.row - c0.frm.row)::(bif decide (c0.to_.row - c0.frm.row≤4) then [N5 5 (c0.to_.row - c0.frm.row)] else []):=a
  rcases List.mem_cons.1 a with a | a
  ·exact .inr (.inr (.inl ⟨a,h⟩))
  ·cases hd:decide (c0.to_.row - c0.frm.row≤4) with
   | true=>rw [hd] at a;exact .inr (.inr (.inr ⟨List.mem_singleton.1 a,h⟩))
   | false=>rw [hd] at a;cases a
 ·rw [decide_eq_true (show c0.to_.row - c0.frm.row=0 by omega)] at a
  exact .inl ⟨List.mem_singleton.1 a,h⟩
 ·rw [decide_eq_false (show ¬ c0.to_.row - c0.frm.row=0 by omega),decide_eq_true (show c0.to_.row - c0.frm.row<0 by omega),show -(c0.to_.row - c0.frm.row)=c0.frm.row - c0.to_.row by omega] at a
  exact .inr (.inl ⟨List.mem_singleton.1 a,h⟩)
theorem B2i {α:Type} {x y:α} {l:List α} (h:x ∈ l++[y]):x ∈ l∨x=y:=by
 rcases List.mem_append.1 h with h | h
 ·exact .inl h
 ·exact .inr (List.mem_singleton.1 h)
def C7d (p:Pth) (e:List Act):Prop :=
 (e=[]∧p.frm.col=p.to_.col)∨e=[{Act.zero with kind:=22,n:=p.to_.col+1}]∨(e=O5 2 (p.to_.col - p.frm.col)∧p.frm.col<p.to_.col)∨(e=O5 3 (-(p.to_.col - p.frm.col))∧p.to_.col<p.frm.col) ∨
  (e=N5 3 (-(p.to_.col - p.frm.col))∧p.to_.col<p.frm.col)∨(e=N5 6 1∧p.to_.col=0)∨(e=N5 6 1++O5 2 p.to_.col∧p.to_.col≠0)
theorem D2s {p:Pth} {b:List (List Act)} (h:∀ e ∈ b,C7d p e):∀ e ∈ I7 p b,C7d p e:=by
 unfold I7;simp only [C9]
 cases hq:decide (p.to_.col=0) with
 | true=>intro e a;rcases B2i a with a | a;exact h e a;exact .inr (.inr (.inr (.inr (.inr (.inl ⟨a,of_decide_eq_true hq⟩)))))
 | false=>intro e a;rcases B2i a with a | a;exact h e a;exact .inr (.inr (.inr (.inr (.inr (.inr ⟨a,of_decide_eq_false hq⟩)))))
theorem D6o {p:Pth} {b:List (List Act)} (h:∀ e ∈ b,C7d p e):∀ e ∈ I5 p b,C7d p e:=by
 unfold I5 J6;simp only [C9]
 cases hq:decide ((p.to_.col - p.frm.col)<0) with
 | true =>
  have c:p.to_.col<p.frm.col:=by have:=of_decide_eq_true hq;omega
  have d:∀ e ∈ b++[O5 3 (-(p.to_.col - p.frm.col))],C7d p e:=fun e a=>by
   rcases B2i a with a | a
   ·exact h e a
   ·exact .inr (.inr (.inr (.inl ⟨a,c⟩)))
  cases decide ((-(p.to_.col - p.frm.col))≤4) with
  | true=>exact D2s (fun e a=>by
    rcases B2i a with a | a
    ·exact d e a
    ·exact .inr (.inr (.inr (.inr (.inl ⟨a,c⟩)))))
  | false=>exact D2s d
 | false=>exact D2s h
theorem D3x {p:Pth}:∀ e ∈ O9 p,C7d p e:=by
 have c:∀ {b:List (List Act)},(∀ e ∈ b,C7d p e)→∀ e ∈ M2 p b,C7d p e:=fun {b} h=>by
  have d:∀ e ∈ b++[[{Act.zero with kind:=22,n:=p.to_.col+1}]],C7d p e:=fun e a=>by
   rcases B2i a with a | a
   ·exact h e a
   ·exact .inr (.inl a)
  unfold M2;simp only [C9]
  cases hq:decide ((0:Int)<(p.to_.col - p.frm.col)) with
  | true=>exact D6o (fun e a=>by
    rcases B2i a with a | a
    ·exact d e a
    ·exact .inr (.inr (.inl ⟨a,by have:=of_decide_eq_true hq;omega⟩)))
  | false=>exact D6o d
 unfold O9
 cases hq:decide ((p.to_.col - p.frm.col)=0) with
 | true=>exact c (fun e a=>by rw [show e=[] from List.mem_singleton.1 a];exact .inl ⟨rfl,by have:=of_decide_eq_true hq;omega⟩)
 | false=>exact c (fun e a=>by cases a)
theorem D4u (c0:Pth) (d:List Act) (ag:List (List Act)) (Q:List Act→Prop) (c:∀ e ∈ ag,Q e):∀ (A:List (List Act)) (t:Nat),(∀ a ∈ A,(d++a≠[]∨c0.frm.wrap=false)→Q (d++a))→∀ e ∈ G2 c0 d ag A t,Q e
 | [],_,_=>c
 | a::A,t,h=>by
  have hr:=D4u c0 d ag Q c A (t+1) (fun x g=>h x (List.mem_cons_of_mem _ g))
  rw [G2]
  cases b:((decide (((d++a).length:Int)=0))&&c0.frm.wrap) with
  | true=>exact hr
  | false =>
   intro e f
   rcases List.mem_cons.1 f with rfl | f
   ·refine h a (List.mem_cons_self ..) ?_
    rcases Bool.and_eq_false_iff.1 b with b | b
    ·left;intro i;rw [i] at b;cases b
    ·exact .inr b
   ·exact hr e f
theorem D3p (c0:Pth) (Q:List Act→Prop) (b:Q [{Act.zero with kind:=19,n:=c0.to_.row+1,m:=c0.to_.col+1}]):∀ (l:List (List Act)),(∀ d ∈ l,∀ a ∈ O9 c0,(d++a≠[]∨c0.frm.wrap=false)→Q (d++a))→∀ e ∈ F1 c0 l,Q e
 | [],_=>fun e f=>by rw [show e=_ from List.mem_singleton.1 f];exact b
 | d::l,h=>by
  rw [F1];simp only [C9]
  exact D4u c0 d _ Q (D3p c0 Q b l (fun x c=>h x (List.mem_cons_of_mem _ c))) _ 0 (h d (List.mem_cons_self ..))
theorem B5g {r c:Int} (b:2≤c∧c≤80) (hr:1≤r∧r≤40) {u:Cur} (d:0≤u.row∧u.row<r) (e:0≤u.col∧u.col<c) (a:u.wrap=true→u.col=c - 1):C2 r c 0 (r - 1) false u=0:=by
 unfold C2 P6 H4
 rw [C3h b hr,w64 (show -1000000≤r - 1∧r - 1≤1000000 by omega),w64 (show -1000000≤c - 1∧c - 1≤1000000 by omega),A5h (show 0≤u.row∧u.row≤r - 1 by omega),A5h (show 0≤u.col∧u.col≤c - 1 by omega)]
 cases hw:u.wrap with
 | false=>simp
 | true=>rw [decide_eq_false (show ¬ u.col<c - 1 by have:=a hw;omega)];simp
def sAt (c r:Int) (u:Cur):ScrC:={ScrC.zero with cols:=c,rows:=r,modes:=A2e,bottom:=r - 1,cursor:=u}
theorem E1i {r c:Int} (hr:1≤r∧r≤40) {n:Int} (h:0≤n∧n<r):P6 r c 0 (r - 1) false n=n:=by
 unfold P6
 rw [w64 (show -1000000≤r - 1∧r - 1≤1000000 by omega),A5h opx]
theorem D1y {r c:Int} (a:2≤c∧c≤80) {n:Int} (h:0≤n∧n<c):H4 r c 0 (r - 1) false n=n:=by
 unfold H4
 rw [w64 (show -1000000≤c - 1∧c - 1≤1000000 by omega),A5h opx]
theorem D4k {r c:Int} (a:2≤c∧c≤80) (hr:1≤r∧r≤40) {n m:Int} (h:1≤n∧n≤r) (b:1≤m∧m≤c):A1k r c 0 (r - 1) false n m=(⟨n - 1,m - 1,false⟩,0):=by
 unfold A1k A3c
 rw [C3h a hr,A5h h,A5h b,w64 (show -1000000≤n - 1∧n - 1≤1000000 by omega),w64 (show -1000000≤m - 1∧m - 1≤1000000 by omega),w64 (show -1000000≤r - 1∧r - 1≤1000000 by omega),Int.add_zero,
  w64 (show -1000000≤n - 1∧n - 1≤1000000 by omega),A5h (show 0≤n - 1∧n - 1≤r - 1 by omega)]
 rfl
section
variable {m al:List (Rwc Cel)} {t:List Bool} {c r:Int} {u:Cur} {a:Act}
theorem far {r c n:Int} (a:2≤c∧c≤80) (hr:1≤r∧r≤40) (h:n≤r∨n≤c):(if (IntKind.i64.wrap (r+c))<n then (IntKind.i64.wrap (r+c)) else n)=n:=by
 rw [w64 (show -1000000≤r+c∧r+c≤1000000 by omega),if_neg opx]
theorem D3u (b:2≤c∧c≤80) (hr:1≤r∧r≤40) (d:0≤u.row∧u.row<r) (f:1≤u.col∧u.col<c) (e:a.kind=3):mlS m al t (sAt c r u) a=sAt c r ⟨u.row,u.col - 1,false⟩:=by
 unfold mlS;rw [if_pos e]
 show ({sAt c r ⟨u.row,u.col,false⟩ with cursor:=(A1l r c 0 (r - 1) false ⟨u.row,u.col,false⟩ 1).1}:ScrC)=_
 unfold A1l A7o C9
 rw [B5g b hr (u:=⟨u.row,u.col,false⟩) d (by show _∧_;dsimp only;omega) (by intro h;cases h),far b hr opx]
 show ({sAt c r ⟨u.row,u.col,false⟩ with cursor:=⟨u.row,H4 r c 0 (r - 1) false (IntKind.i64.wrap (u.col - 1)),false⟩}:ScrC)=_
 rw [w64 opx,D1y b opx];rfl
theorem D3w (d:2≤c∧c≤80) (hr:1≤r∧r≤40) (f:0≤u.row∧u.row+1<r) (e:0≤u.col∧u.col<c) (b:a.kind=5):mlS m al t (sAt c r u) a=sAt c r ⟨u.row+1,u.col,false⟩:=by
 unfold mlS;rw [if_neg opx,if_pos b]
 show (bif A2e.newline then _ else ({sAt c r ⟨u.row,u.col,false⟩ with cursor:=(F6 r c 0 (r - 1) false ⟨u.row,u.col,false⟩).1}:ScrC))=_
 unfold F6 A7p A5s C9
 rw [B5g d hr (u:=⟨u.row,u.col,false⟩) (by show _∧_;dsimp only;omega) e (by intro h;cases h)]
 show ({sAt c r ⟨u.row,u.col,false⟩ with cursor:=(A2m ⟨u.row,u.col,false⟩ (r - 1) false r c 0 (r - 1) false 1).1}:ScrC)=_
 unfold A2m
 dsimp only
 rw [decide_eq_false (show ¬ u.row=r - 1 by omega),w64 (show -1000000≤u.row+1∧u.row+1≤1000000 by omega),E1i hr opx];rfl
theorem D9k (b:a.kind=6):mlS m al t (sAt c r u) a=sAt c r ⟨u.row,0,false⟩:=by
 unfold mlS;rw [if_neg opx,if_neg opx,if_pos b];rfl
theorem D9s (e:2≤c∧c≤80) (hr:1≤r∧r≤40) (b:1≤a.n∧a.n≤r) (f:1≤a.m∧a.m≤c) (d:a.kind=19):mlS m al t (sAt c r u) a=sAt c r ⟨a.n - 1,a.m - 1,false⟩:=by
 unfold mlS;rw [if_neg opx,if_neg opx,if_neg opx,if_pos d]
 show ({sAt c r ⟨u.row,u.col,false⟩ with cursor:=(A1k r c 0 (r - 1) false a.n a.m).1}:ScrC)=_
 rw [D4k e hr b f];rfl
theorem E1t (b:2≤c∧c≤80) (hr:1≤r∧r≤40) (d:0≤u.row∧u.row<r) (g:0≤u.col∧u.col<c) (f:1≤a.n∧a.n≤c) (e:a.kind=22):mlS m al t (sAt c r u) a=sAt c r ⟨u.row,a.n - 1,false⟩:=by
 unfold mlS;rw [if_neg opx,if_neg opx,if_neg opx,if_neg opx,if_pos e]
 show ({sAt c r ⟨u.row,u.col,false⟩ with cursor:=(A3z r c 0 (r - 1) false ⟨u.row,u.col,false⟩ a.n).1}:ScrC)=_
 unfold A3z A8u C9
 rw [B5g b hr (u:=⟨u.row,u.col,false⟩) d g (by intro h;cases h)]
 show ({sAt c r ⟨u.row,u.col,false⟩ with cursor:=⟨u.row,(A1k r c 0 (r - 1) false 1 a.n).1.col,false⟩}:ScrC)=_
 rw [D4k b hr opx f];rfl
theorem E3s (d:2≤c∧c≤80) (hr:1≤r∧r≤40) (b:0≤u.row∧u.row<r) (f:0≤u.col∧u.col<c) (i:1≤a.m∧a.m≤u.row) (g:a.kind=20) (e:a.n=0):mlS m al t (sAt c r u) a=sAt c r ⟨u.row - a.m,u.col,false⟩:=by
 unfold mlS;rw [if_neg opx,if_neg opx,if_neg opx,if_neg opx,if_neg opx,if_pos e]
 show ({sAt c r ⟨u.row,u.col,false⟩ with cursor:=(A6a r c 0 (r - 1) false ⟨u.row,u.col,false⟩ a.m).1}:ScrC)=_
 unfold A6a A8v C9
 rw [B5g d hr (u:=⟨u.row,u.col,false⟩) b f (by intro h;cases h),far d hr opx,decide_eq_false (show ¬ a.m<0 by omega)]
 show ({sAt c r ⟨u.row,u.col,false⟩ with cursor:=A0h r c 0 (r - 1) false ⟨u.row,u.col,false⟩ a.m}:ScrC)=_
 unfold A0h
 dsimp only
 rw [decide_eq_true b.1,w64 (show -1000000≤u.row - a.m∧u.row - a.m≤1000000 by omega),show (if u.row - a.m > 0 then u.row - a.m else 0)=u.row - a.m by split<;>omega];rfl
theorem D8t (b:2≤c∧c≤80) (hr:1≤r∧r≤40) (d:0≤u.row∧u.row<r) (f:0≤u.col∧u.col<c) (i:1≤a.m∧u.row+a.m<r) (g:a.kind=20) (e:a.n=1):mlS m al t (sAt c r u) a=sAt c r ⟨u.row+a.m,u.col,false⟩:=by
 unfold mlS;rw [if_neg opx,if_neg opx,if_neg opx,if_neg opx,if_neg opx,if_neg opx,if_pos e]
 show ({sAt c r ⟨u.row,u.col,false⟩ with cursor:=(A5l r c 0 (r - 1) false ⟨u.row,u.col,false⟩ a.m).1}:ScrC)=_
 unfold A5l A8w C9
 rw [B5g b hr (u:=⟨u.row,u.col,false⟩) d f (by intro h;cases h),far b hr opx,decide_eq_false (show ¬ a.m<0 by omega)]
 show ({sAt c r ⟨u.row,u.col,false⟩ with cursor:=W9 r c 0 (r - 1) false ⟨u.row,u.col,false⟩ a.m}:ScrC)=_
 unfold W9
 dsimp only
 rw [decide_eq_true (show u.row≤r - 1 by omega),w64 (show -1000000≤u.row+a.m∧u.row+a.m≤1000000 by omega),show (if u.row+a.m<r - 1 then u.row+a.m else r - 1)=u.row+a.m by split<;>omega];rfl
theorem D1u (b:2≤c∧c≤80) (hr:1≤r∧r≤40) (d:0≤u.row∧u.row<r) (f:0≤u.col∧u.col<c) (i:1≤a.m∧u.col+a.m<c) (g:a.kind=20) (e:a.n=2):mlS m al t (sAt c r u) a=sAt c r ⟨u.row,u.col+a.m,false⟩:=by
 unfold mlS;rw [if_neg opx,if_neg opx,if_neg opx,if_neg opx,if_neg opx,if_neg opx,if_neg opx,if_pos e]
 show ({sAt c r ⟨u.row,u.col,false⟩ with cursor:=(A5u r c 0 (r - 1) false ⟨u.row,u.col,false⟩ a.m).1}:ScrC)=_
 unfold A5u A8q C9
 rw [B5g b hr (u:=⟨u.row,u.col,false⟩) d f (by intro h;cases h),far b hr opx,decide_eq_false (show ¬ a.m<0 by omega)]
 show ({sAt c r ⟨u.row,u.col,false⟩ with cursor:=⟨u.row,H4 r c 0 (r - 1) false (IntKind.i64.wrap (u.col+a.m)),false⟩}:ScrC)=_
 rw [w64 opx,D1y b opx];rfl
theorem D9m (b:2≤c∧c≤80) (hr:1≤r∧r≤40) (d:0≤u.row∧u.row<r) (e:0≤u.col∧u.col<c) (i:1≤a.m∧a.m≤u.col) (f:a.kind=20) (g:a.n=3):mlS m al t (sAt c r u) a=sAt c r ⟨u.row,u.col - a.m,false⟩:=by
 unfold mlS;rw [if_neg opx,if_neg opx,if_neg opx,if_neg opx,if_neg opx,if_neg opx,if_neg opx,if_neg opx]
 show ({sAt c r ⟨u.row,u.col,false⟩ with cursor:=(A1l r c 0 (r - 1) false ⟨u.row,u.col,false⟩ a.m).1}:ScrC)=_
 unfold A1l A7o C9
 rw [B5g b hr (u:=⟨u.row,u.col,false⟩) d e (by intro h;cases h),far b hr opx,decide_eq_false (show ¬ a.m<0 by omega)]
 show ({sAt c r ⟨u.row,u.col,false⟩ with cursor:=⟨u.row,H4 r c 0 (r - 1) false (IntKind.i64.wrap (u.col - a.m)),false⟩}:ScrC)=_
 rw [w64 opx,D1y b opx];rfl
end
def A6e (c r:Int) (m al:List (Rwc Cel)) (t:List Bool):List Act→Cur→Cur→Prop
 | [],u,e=>u=e
 | a::l,u,e=>(m6 a∧(a.kind=5→¬ u.row=r - 1))∧∃ v,mlS m al t (sAt c r u) a=sAt c r v∧A6e c r m al t l v e
section
variable {m al:List (Rwc Cel)} {t:List Bool} {c r:Int}
theorem D1q:∀ {l:List Act} {u e:Cur},A6e c r m al t l u e→∀ a ∈ l,m6 a
 | [],_,_,_=>fun a d=>by cases d
 | b::l,_,_,⟨h,v,_,hl⟩=>fun a d=>by
  rcases List.mem_cons.1 d with rfl | d
  ·exact h.1
  ·exact D1q hl a d
theorem C7v:∀ {l:List Act} {u e:Cur},A6e c r m al t l u e→C1z m al t l (sAt c r u)
 | [],_,_,_=>trivial
 | b::l,_,_,⟨h,v,hv,hl⟩=>⟨h.2,by rw [hv];exact C7v hl⟩
theorem C0p:∀ {l a:List Act} {u v e:Cur},A6e c r m al t l u v→A6e c r m al t a v e→A6e c r m al t (l++a) u e
 | [],a,_,_,_,h,h'=>by cases h;exact h'
 | b::l,a,_,_,_,⟨h,w,hw,hl⟩,h'=>⟨h,w,hw,C0p hl h'⟩
theorem A2p {a:Act} {u v:Cur} (h:m6 a) (b:a.kind=5→¬ u.row=r - 1) (e:mlS m al t (sAt c r u) a=sAt c r v):A6e c r m al t [a] u v:=⟨⟨h,b⟩,v,e,rfl⟩
theorem D7h (a:Act) (b:List Act) (i:Nat) (x:ScrC):J8 m al t (a::b) i x=J8 m al t b (i+1) (mlS m al t x a):=by
 rw [J8];unfold mlS;simp only [Bool.cond_eq_ite,decide_eq_true_eq]
 (repeat' split)<;>rfl
theorem C7j:∀ {l:List Act} {u e:Cur} (i:Nat),A6e c r m al t l u e→J8 m al t l i (sAt c r u)=(sAt c r e,m,al,t,0)
 | [],_,_,_,h=>by cases h;rfl
 | b::l,_,_,i,⟨h,v,hv,hl⟩=>by rw [D7h,hv];exact C7j (i+1) hl
theorem D6q (s:ScrC) (L:List Act):∀ (l:List Act) (i:Nat),(∀ a ∈ l,J3 a=0)→Y2 s m al t L l i=J8 m al t L 0 s
 | [],i,_=>rfl
 | a::l,i,h=>by
  simp only [Y2]
  rw [h a (List.mem_cons_self ..)]
  exact D6q s L l (i+1) fun b c=>h b (List.mem_cons_of_mem _ c)
theorem C4r (a:2≤c∧c≤80) (hr:1≤r∧r≤40):∀ (k:Nat) (u:Cur),0≤u.row∧u.row+k+1<r→0≤u.col∧u.col<c→A6e c r m al t (List.replicate (k+1) {Act.zero with kind:=5}) u ⟨u.row+k+1,u.col,false⟩
 | 0,u,h1,h2=>A2p ⟨by decide,by decide,by decide⟩ (fun _=>by omega) (by rw [D3w a hr opx h2 rfl];simp)
 | k+1,u,h1,h2=>by
  refine ⟨⟨⟨by decide,by decide,by decide⟩,fun _=>by omega⟩,⟨u.row+1,u.col,false⟩,D3w a hr opx h2 rfl,?_⟩
  have h:=C4r a hr k ⟨u.row+1,u.col,false⟩ otw h2
  dsimp only at h
  rw [show u.row+1+(k:Int)+1=u.row+((k+1:Nat):Int)+1 by omega] at h
  exact h
theorem C4o (a:2≤c∧c≤80) (hr:1≤r∧r≤40):∀ (k:Nat) (u:Cur),0≤u.row∧u.row<r→(k:Int)+1≤u.col∧u.col<c→A6e c r m al t (List.replicate (k+1) {Act.zero with kind:=3}) u ⟨u.row,u.col - k - 1,false⟩
 | 0,u,h1,h2=>A2p ⟨by decide,by decide,by decide⟩ (fun h=>by cases h) (by rw [D3u a hr h1 opx rfl];simp)
 | k+1,u,h1,h2=>by
  refine ⟨⟨⟨by decide,by decide,by decide⟩,fun h=>by cases h⟩,⟨u.row,u.col - 1,false⟩,D3u a hr h1 opx rfl,?_⟩
  have h:=C4o a hr k ⟨u.row,u.col - 1,false⟩ h1 otw
  dsimp only at h
  rw [show u.col - 1 - (k:Int) - 1=u.col - ((k+1:Nat):Int) - 1 by omega] at h
  exact h
theorem C5q {k n j:Int} (h:k=3∨k=5∨k=6∨k=19∨k=20∨k=22) (a:k=20→0≤n∧n≤3):m6 {Act.zero with kind:=k,n:=n,m:=j}:=⟨h,a,Nat.zero_le _⟩
theorem C4z (u:Cur):A6e c r m al t [{Act.zero with kind:=6}] u ⟨u.row,0,false⟩:=A2p ⟨by decide,by decide,by decide⟩ (fun h=>by cases h) (D9k rfl)
theorem C0i (d:2≤c∧c≤80) (hr:1≤r∧r≤40) {p:Pth} {a:List Act} (i:C7d p a) (b:0≤p.to_.row∧p.to_.row<r) (g:0≤p.frm.col∧p.frm.col<c) (l:0≤p.to_.col∧p.to_.col<c) {w:Bool}
  (f:a≠[]∨w=false):A6e c r m al t a ⟨p.to_.row,p.frm.col,w⟩ ⟨p.to_.row,p.to_.col,false⟩:=by
 rcases i with ⟨rfl,e⟩ | rfl | ⟨rfl,e⟩ | ⟨rfl,e⟩ | ⟨rfl,e⟩ | ⟨rfl,e⟩ | ⟨rfl,e⟩
 ·have f:=f.resolve_left (fun h=>h rfl);subst f
  show (⟨_,_,_⟩:Cur)=⟨_,_,_⟩;rw [e]
 ·refine A2p (C5q (k:=22) (j:=0) opx opx) (fun h=>by cases h) ?_
  rw [E1t (u:=⟨p.to_.row,p.frm.col,w⟩) d hr b g (by show _∧_;dsimp only;omega) rfl];dsimp only;rw [Int.add_sub_cancel]
 ·refine A2p (C5q opx opx) (fun h=>by cases h) ?_
  rw [D1u (u:=⟨p.to_.row,p.frm.col,w⟩) d hr b g (by show _∧_;dsimp only;omega) rfl rfl];dsimp only;rw [show p.frm.col+(p.to_.col - p.frm.col)=p.to_.col by omega]
 ·refine A2p (C5q opx opx) (fun h=>by cases h) ?_
  rw [D9m (u:=⟨p.to_.row,p.frm.col,w⟩) d hr b g (by show _∧_;dsimp only;omega) rfl rfl];dsimp only;rw [show p.frm.col - -(p.to_.col - p.frm.col)=p.to_.col by omega]
 ·rw [B6b]
  have h:=C4o (m:=m) (al:=al) (t:=t) d hr (p.frm.col - p.to_.col - 1).toNat ⟨p.to_.row,p.frm.col,w⟩ b otw
  dsimp only at h
  rw [show (p.frm.col - p.to_.col - 1).toNat+1=(-(p.to_.col - p.frm.col)).toNat by omega,show p.frm.col - ((p.frm.col - p.to_.col - 1).toNat:Int) - 1=p.to_.col by omega] at h
  exact h
 ·rw [B6b,e];exact C4z _
 ·rw [B6b]
  refine C0p (C4z _) (A2p (C5q opx opx) (fun h=>by cases h) ?_)
  rw [D1u d hr b otw (by show _∧_;dsimp only;omega) rfl rfl];dsimp only;rw [Int.zero_add]
theorem D2t (a:2≤c∧c≤80) (hr:1≤r∧r≤40) {p:Pth} {d:List Act} (g:d ∈ I9 p) (f:0≤p.frm.row∧p.frm.row<r) (j:0≤p.to_.row∧p.to_.row<r) (b:0≤p.frm.col∧p.frm.col<c) :
  (d=[]∧p.frm.row=p.to_.row)∨(d≠[]∧A6e c r m al t d p.frm ⟨p.to_.row,p.frm.col,false⟩):=by
 rcases D3k g with ⟨rfl,e⟩ | ⟨rfl,e⟩ | ⟨rfl,e⟩ | ⟨rfl,e⟩
 ·exact .inl ⟨rfl,e⟩
 ·refine .inr ⟨(by intro h;cases h),A2p (C5q opx opx) (fun h=>by cases h) ?_⟩
  rw [E3s a hr f b (by show _∧_;dsimp only;omega) rfl rfl];dsimp only;rw [show p.frm.row - (p.frm.row - p.to_.row)=p.to_.row by omega]
 ·refine .inr ⟨(by intro h;cases h),A2p (C5q opx opx) (fun h=>by cases h) ?_⟩
  rw [D8t a hr f b (by show _∧_;dsimp only;omega) rfl rfl];dsimp only;rw [show p.frm.row+(p.to_.row - p.frm.row)=p.to_.row by omega]
 ·refine .inr ?_
  rw [B6b]
  have h:=C4r (m:=m) (al:=al) (t:=t) a hr (p.to_.row - p.frm.row - 1).toNat p.frm opx b
  rw [show (p.to_.row - p.frm.row - 1).toNat+1=(p.to_.row - p.frm.row).toNat by omega,show p.frm.row+((p.to_.row - p.frm.row - 1).toNat:Int)+1=p.to_.row by omega] at h
  refine ⟨fun i=>?_,h⟩
  have:=congrArg List.length i;simp at this;omega
theorem C7n (b:2≤c∧c≤80) (hr:1≤r∧r≤40) {p:Pth} (o:0≤p.frm.row∧p.frm.row<r) (f:0≤p.to_.row∧p.to_.row<r) (g:0≤p.frm.col∧p.frm.col<c) (j:0≤p.to_.col∧p.to_.col<c) :
  ∀ e ∈ H1 p,A6e c r m al t e p.frm ⟨p.to_.row,p.to_.col,false⟩:=by
 refine D3p p (fun e=>A6e c r m al t e p.frm ⟨p.to_.row,p.to_.col,false⟩) ?_ _ (fun d k a i l=>?_)
 ·refine A2p (C5q opx opx) (fun h=>by cases h) ?_
  rw [D9s b hr (by show _∧_;dsimp only;omega) (by show _∧_;dsimp only;omega) rfl];dsimp only;rw [Int.add_sub_cancel,Int.add_sub_cancel]
 ·rcases D2t (m:=m) (al:=al) (t:=t) (p:=p) b hr k o f g with ⟨rfl,e⟩ | ⟨_,n⟩
  ·have h:=C0i (m:=m) (al:=al) (t:=t) (w:=p.frm.wrap) b hr (D3x a i) f g j l
   rw [← e] at h;exact e▸h
  ·exact C0p n (C0i b hr (D3x a i) f g j (.inr rfl))
end
theorem B7k:∀ (l:List (List Act)) (w:List Act) (k:Int),(I8 l w k).1=w∨(I8 l w k).1 ∈ l
 | [],w,k=>.inl rfl
 | e::l,w,k=>by
  simp only [I8,C9]
  cases ((!decide ((U1 e).2=0))||((decide ((0:Int)≤k))&&(decide (k≤((U1 e).1.length:Int))))) with
  | true=>exact (B7k l w k).imp id (List.mem_cons_of_mem _)
  | false=>exact .inr ((B7k l e _).elim (fun h=>by rw [cond_false,h];exact List.mem_cons_self ..) (List.mem_cons_of_mem _))
theorem D2r {c r:Int} {f:Cur} {t:Plc}:(J4 c r f t).1=[]∨(G1 c r ⟨f,t⟩=0∧(J4 c r f t).1 ∈ H1 ⟨f,t⟩):=by
 unfold J4
 cases h:(!decide (G1 c r ⟨f,t⟩=0)) with
 | true=>exact .inl rfl
 | false =>
  rcases B7k (H1 (B2 ⟨f,t⟩)) [] (-1) with a | a
  ·exact .inl a
  ·exact .inr ⟨by simpa using h,a⟩
theorem C6g {c r:Int} {f:Cur} {t:Plc} (m al:List (Rwc Cel)) (a:List Bool):(J4 c r f t).1=[]∨((2≤c∧c≤80)∧(1≤r∧r≤40)∧A6e c r m al a (J4 c r f t).1 f ⟨t.row,t.col,false⟩):=by
 rcases D2r (c:=c) (r:=r) (f:=f) (t:=t) with h | ⟨h,h2⟩
 ·exact .inl h
 ·have b:=B8l (c:=c) (r:=r) (p:=⟨f,t⟩) (by rw [h];rfl)
  dsimp only at b
  exact .inr ⟨by omega,by omega,C7n opx opx (p:=⟨f,t⟩) otw otw otw otw _ h2⟩
theorem D9j {c r:Int} {f:Cur} {t:Plc} {R:List Act×Int} (h:J4 c r f t=R) (d:R.2=0):∀ a ∈ R.1,m6 a:=by
 subst h
 rcases C6g (c:=c) (r:=r) (f:=f) (t:=t) [] [] [] with h | ⟨_,_,h⟩
 ·rw [h];exact fun a b=>by cases b
 ·exact D1q h
theorem D6d {c r:Int} {f:Cur} {t:Plc} {R:List Act×Int} {S:ScrC×List (Rwc Cel)×List (Rwc Cel)×List Bool×Int} (h:J4 c r f t=R) (b:R.2=0) (a:R1 c r=S) :
  C1z S.2.1 S.2.2.1 S.2.2.2.1 R.1 ({S.1 with cursor:=f}:ScrC):=by
 subst h
 rcases C6g (c:=c) (r:=r) (f:=f) (t:=t) S.2.1 S.2.2.1 S.2.2.2.1 with h | ⟨hc,hr,h⟩
 ·rw [h];trivial
 ·have:=C7v h
  rw [show ({S.1 with cursor:=f}:ScrC)=sAt c r f by rw [← a,B6x c r hc hr];rfl];exact this
end Go.Proofs.YtioaekgoceinkaaGreatDoor
set_option linter.unusedVariables false
set_option linter.unusedSimpArgs false
set_option linter.unnecessarySimpa false
set_option maxRecDepth 100000
namespace Go.Proofs.YtioaekgoceinkaaGreatDoor
open Go Go.Fen
def A2t (d:Int) (c:Int) (a:Cur) (e:Plc):Bool :=
 (bif (!B0q) then false else (C9 (J4 d c a e) fun (g:List Act×Int)=>(bif (!decide (g.2=0)) then (decide (g.2=2)) else (C9 (R1 d c) fun (b:ScrC×List (Rwc Cel)×List (Rwc Cel)×List Bool×Int)=>(bif (!decide (b.2.2.2.2=0)) then false else (C9 (A9k ({b.1 with cursor:=a}) b.2.1 b.2.2.1 b.2.2.2.1 g.1) fun (f:ScrC×List (Rwc Cel)×List (Rwc Cel)×List Bool×Int)=>((decide (f.2.2.2.2=0))&&(A3r f.1 f.2.1 f.2.2.1 f.2.2.2.1 ({b.1 with cursor:={Cur.zero with row:=e.row,col:=e.col}}) b.2.1 b.2.2.1 b.2.2.2.1))))))))
theorem B6r (m:Int) (l:Int) (a:Cur) (b:Plc) (R:Bool) (hR:A2t m l a b=R):G3 Tryz.prog 3 [iv m,iv l,ag (B8 a),ag (X5 b)] [A4n,A4q,P0,O4,K0,S7] (bv R):=by
 refine zce Tryz.func3 fun X hX hr hD=>?_
 replace hR:=(A2t.eq_1 ..).symm.trans hR
 refine sR_ rfl (A8j 3 0 [] (fun t w=>[(6,pt t 0),(7,pt w 0)]) (fun t w=>[bx w (X5 b) 25,bx t (B8 a) 23]) (fun t w=>(ie (A5 (sR_ rfl (zv rfl (C6v _ rfl) (pp1 1 14 rfl (ie ?_))))))))
 refine zjb rfl hR ?_ ?_<;>clear hR<;>intro hR h3
 ·refine sR_ rfl (pp1 1 8 rfl ?_)
  subst hR
  refine ie (A8 ?_)
  exact E9 hr hD
 refine A6 (nx (sR_ rfl (zrl 4 6 [1,0] [(16,iv m),(17,iv l),(18,ag (B8 a)),(19,ag (X5 b))] ?_)))
 have hQ:=D0 hR;clear hR;obtain ⟨y2,x,hR⟩:=hQ
 refine zc rfl (A6y x) fun ⟨⟨q4,k5⟩,aj⟩=>?_
 obtain ⟨b6,b5⟩:=aj
 have ak:=C3i x
 have:=ak.1;try rw [x] at this
 refine pp2 5 9 10 rfl (ie (A5 (sR_ rfl (pp1 2 24 rfl (ie ?_)))))
 refine zjn rfl hR ?_ ?_<;>clear hR<;>intro hR h9 al
 ·refine sR_ rfl (pp1 3 8 rfl ?_)
  subst hR
  refine ie (A8 ?_)
  exact E9 hr hD
 have o:y2.2=0:=by have:=al;omega
 refine A6 (nx (sR_ rfl (pp2 2 28 29 rfl ?_)))
 have hQ:=D0 hR;clear hR;obtain ⟨d,a0,hR⟩:=hQ
 refine zc rfl (B8y a0) fun ⟨⟨⟨g,ad⟩,a2⟩,⟨⟨f,a5⟩,a1⟩,⟨e,v⟩⟩=>?_
 try dsimp only at a2
 obtain ⟨z,p⟩:=a2
 try dsimp only at a1
 obtain ⟨u,s⟩:=a1
 have:=VOk.le z
 have:=VOk.le u
 have:=VOk.le v
 have:=VOk.cap z
 have:=VOk.cap u
 have:=VOk.cap v
 have:=p.1
 have:=s.1
 have h:=B2b m l;rw [a0] at h;have i:=B5r m l;rw [a0] at i
 refine A4k [bx w (X5 b) 25,bx t (B8 a) 23] ((vo K1 116 f a5)++((vo N8 4 e d.2.2.2.1)++([]))) (T:=116) (c:=K1) (r:=g) (xs:=ad) (VOk.cast z (by rw [p.1])) oll ?_
 refine A4k [bx w (X5 b) 25,bx t (B8 a) 23] ((vo N8 4 e d.2.2.2.1)++([])) (T:=116) (c:=K1) (r:=f) (xs:=a5) (VOk.cast u (by rw [s.1])) oll ?_
 refine A4k [bx w (X5 b) 25,bx t (B8 a) 23] [] (T:=4) (c:=N8) (r:=e) (xs:=d.2.2.2.1) v oll ?_
 refine H9 6 0 [0] (fun n=>[(11,pt n 0),(10,iv d.2.2.2.2)]) (fun n=>[bx n (B6 d.1 ⟨va g.q,d.2.1.length,g.k⟩ ⟨va f.q,d.2.2.1.length,f.k⟩ ⟨none,0,0⟩ ⟨va e.q,d.2.2.2.1.length,e.k⟩) 45,bx w (X5 b) 25,bx t (B8 a) 23]) (fun n=>?_)
 refine ie (A5 (sR_ rfl (pp1 2 34 rfl (ie ?_))))
 refine zjn rfl hR ?_ ?_<;>clear hR<;>intro hR b7 aq
 ·refine sR_ rfl (pp1 1 8 rfl ?_)
  subst hR
  refine ie (A8 ?_)
  exact E9 hr hD
 have an:=D9j x o
 have au:=D6d x o a0
 refine A6 (nx (sR_ rfl (zrg 3 0 [2,0] [] [bx n (B6 ({d.1 with cursor:=a}) ⟨va g.q,d.2.1.length,g.k⟩ ⟨va f.q,d.2.2.1.length,f.k⟩ ⟨none,0,0⟩ ⟨va e.q,d.2.2.2.1.length,e.k⟩) 45,bx w (X5 b) 25,bx t (B8 a) 23] (ie (sR_ rfl (zrl 2 7 [0] [(38,ag (B6 ({d.1 with cursor:=a}) ⟨va g.q,d.2.1.length,g.k⟩ ⟨va f.q,d.2.2.1.length,f.k⟩ ⟨none,0,0⟩ ⟨va e.q,d.2.2.2.1.length,e.k⟩)),(39,.slice q4 y2.1.length k5)] ?_))))))
 have hQ:=D0 hR;clear hR;obtain ⟨j,am,hR⟩:=hQ
 refine zc rfl (C8p am p om_ om_ s) fun ⟨⟨⟨a7,ar,a6⟩,af⟩,⟨⟨a8,ap,a9⟩,ac⟩,⟨⟨aa,ab⟩,ae⟩⟩=>?_
 obtain ⟨a3,az,av⟩:=af
 obtain ⟨a4,aw,b3⟩:=ac
 obtain ⟨b0,ay⟩:=ae
 have:=a3.1
 have:=a4.1
 refine H9 6 0 [0] (fun y=>[(12,pt y 0),(10,iv j.2.2.2.2)]) (fun y=>[bx y (B6 j.1 ⟨a7,j.2.1.length,a6⟩ ⟨a8,j.2.2.1.length,a9⟩ ⟨none,0,0⟩ ⟨aa,j.2.2.2.1.length,ab⟩) 45,bx n (B6 ({d.1 with cursor:=a}) ⟨va g.q,d.2.1.length,g.k⟩ ⟨va f.q,d.2.2.1.length,f.k⟩ ⟨none,0,0⟩ ⟨va e.q,d.2.2.2.1.length,e.k⟩) 45,bx w (X5 b) 25,bx t (B8 a) 23]) (fun y=>?_)
 refine ie (sR_ rfl (zrg 7 0 [2,2,1] [] [bx y (B6 j.1 ⟨a7,j.2.1.length,a6⟩ ⟨a8,j.2.2.1.length,a9⟩ ⟨none,0,0⟩ ⟨aa,j.2.2.2.1.length,ab⟩) 45,bx n (B6 ({d.1 with cursor:={Cur.zero with row:=b.row,col:=b.col}}) ⟨va g.q,d.2.1.length,g.k⟩ ⟨va f.q,d.2.2.1.length,f.k⟩ ⟨none,0,0⟩ ⟨va e.q,d.2.2.2.1.length,e.k⟩) 45,bx w (X5 b) 25,bx t (B8 a) 23] (ie (sR_ rfl (pp1 3 51 rfl ?_)))))
 refine zid 4 1 51 55 (A3r j.1 j.2.1 j.2.2.1 j.2.2.2.1 ({d.1 with cursor:={Cur.zero with row:=b.row,col:=b.col}}) d.2.1 d.2.2.1 d.2.2.2.1) (fun ai ao=>?_) ?_
 ·refine zrl 2 2 [0,1] [(52,ag (B6 j.1 ⟨a7,j.2.1.length,a6⟩ ⟨a8,j.2.2.1.length,a9⟩ ⟨none,0,0⟩ ⟨aa,j.2.2.2.1.length,ab⟩)),(53,ag (B6 ({d.1 with cursor:={Cur.zero with row:=b.row,col:=b.col}}) ⟨va g.q,d.2.1.length,g.k⟩ ⟨va f.q,d.2.2.1.length,f.k⟩ ⟨none,0,0⟩ ⟨va e.q,d.2.2.2.1.length,e.k⟩))] (zv rfl (C5a rfl a3 om_ om_ a4 om_ om_ om_ om_ p om_ om_ s) (pp1 1 55 rfl ?_))
  exact zai 5 51 55 ai
 refine pp1 1 8 rfl ?_
 subst hR
 refine ie (A8 ?_)
 exact E9 hr hD
end Go.Proofs.YtioaekgoceinkaaGreatDoor
set_option linter.unusedVariables false
set_option linter.unusedSimpArgs false
namespace Go.Proofs.YtioaekgoceinkaaGreatDoor
open Go Go.Fen
theorem D7f (b:List Bool):∀ (l:List Bool) (i:Nat),l=b.drop i→M5 b l i=true
 | [],i,h=>rfl
 | a::l,i,h=>by
  have d:i<b.length:=by
   rcases Nat.lt_or_ge i b.length with c | c
   ·exact c
   ·rw [List.drop_of_length_le c] at h;cases h
  rw [List.drop_eq_getElem_cons d] at h
  obtain ⟨rfl,e⟩:=List.cons.inj h
  simp only [M5]
  rw [D7f b l (i+1) e,gdE d];simp
theorem D7o (b:List Cel):∀ (l:List Cel) (i:Nat),l=b.drop i→H6 b l i=true
 | [],i,h=>rfl
 | a::l,i,h=>by
  have d:i<b.length:=by
   rcases Nat.lt_or_ge i b.length with c | c
   ·exact c
   ·rw [List.drop_of_length_le c] at h;cases h
  rw [List.drop_eq_getElem_cons d] at h
  obtain ⟨rfl,e⟩:=List.cons.inj h
  simp only [H6]
  rw [D7o b l (i+1) e,gdE d];simp
theorem D8d (b:List (Rwc Cel)):∀ (l:List (Rwc Cel)) (i:Nat),l=b.drop i→F0 b l i=true
 | [],i,h=>rfl
 | a::l,i,h=>by
  have d:i<b.length:=by
   rcases Nat.lt_or_ge i b.length with c | c
   ·exact c
   ·rw [List.drop_of_length_le c] at h;cases h
  rw [List.drop_eq_getElem_cons d] at h
  obtain ⟨rfl,e⟩:=List.cons.inj h
  simp only [F0]
  rw [D8d b l (i+1) e,gdE d]
  unfold B9y O0
  rw [D7o b[i].l b[i].l 0 rfl];simp
theorem C4y (g:List (Rwc Cel)):A5b g g=true:=by
 unfold A5b I4
 rw [D8d g g 0 rfl];simp
theorem D3l (s:ScrC) (m a:List (Rwc Cel)) (t:List Bool):A3r s m a t s m a t=true:=by
 unfold A3r B1w Y1
 rw [C4y,C4y,D7f t t 0 rfl,show A9m=true from rfl];simp
theorem D9i:B0q=true:=by decide +kernel
theorem D7c (l:List Act) (ag:List UInt8→Int→List UInt8×Int) (a:∀ b t,(ag b t).2=0):∀ (c:Nat) (b:List UInt8) (t n:Int),(Y6 l ag c b t n).2=0
 | 0,_,_,_=>rfl
 | c+1,b,t,n=>by
  simp only [Y6,C9]
  cases (((decide (n<(l.length:Int)))&&(decide (n<(t+16))))&&(decide ((l.getD ((n).toNat) Act.zero).kind=39))) with
  | true=>exact D7c l ag a c _ _ _
  | false=>cases decide (n=t)<;>exact a _ _
theorem D6b (l:List Act):∀ (a:Nat) (b:List UInt8) (t:Int),(W2 l a b t).2=0
 | 0,_,_=>rfl
 | a+1,b,t=>by
  simp only [W2]
  cases decide (t<(l.length:Int)) with
  | true=>exact D7c l _ (fun b t=>D6b l a b t) _ _ _ _
  | false=>rfl
theorem D2u (L:List Act):∀ (l:List Act) (i:Nat),(U9 L l i).2=0 ↔ ∀ a ∈ l,J3 a=0
 | [],i=>⟨fun _ a b=>(by cases b),fun _=>D6b L _ _ _⟩
 | a::l,i=>by
  simp only [U9,List.forall_mem_cons]
  cases h:decide (J3 a=0) with
  | true=>exact ⟨fun q=>⟨of_decide_eq_true h,(D2u L l (i+1)).1 q⟩,fun q=>(D2u L l (i+1)).2 q.2⟩
  | false=>exact ⟨fun q=>absurd q (of_decide_eq_false h),fun q=>absurd q.1 (of_decide_eq_false h)⟩
theorem D0w {l:List Act} (b:l.length≤1000):(U1 l).2=0 ↔ ∀ a ∈ l,J3 a=0:=by
 unfold U1;rw [decide_eq_false opx];exact D2u l l 0
theorem D9y {n m:Int} (h:1≤n∧n≤100) (e:1≤m∧m≤100):J3 {Act.zero with kind:=19,n:=n,m:=m}=0:=by
 have b:∀ k:Fin 101,R9 19 (k.val:Int)=true∨k.val=0:=by decide +kernel
 have c:∀ k:Fin 101,R8 19 (k.val:Int)=true∨k.val=0:=by decide +kernel
 have a:R9 19 n=true:=by
  have:=b ⟨n.toNat,by omega⟩
  dsimp only at this
  rw [show ((n.toNat:Nat):Int)=n by omega] at this
  exact this.resolve_right opx
 have d:R8 19 m=true:=by
  have:=c ⟨m.toNat,by omega⟩
  dsimp only at this
  rw [show ((m.toNat:Nat):Int)=m by omega] at this
  exact this.resolve_right opx
 show (bif (((((!(O2 19 D8))||(!(R9 19 n)))||(!(R8 19 m)))||(!(decide (Col.zero=Col.zero))))||(!(decide (([]:List UInt8)=([]:List UInt8))))) then (200:Int) else 0)=0
 rw [a,d];decide +kernel
theorem C9w {c r:Int} {p:Pth} (h:G1 c r p≠0):G1 c r p=2:=by
 revert h;unfold G1;simp only [C9]
 cases ((((!decide ((R1 c r).2.2.2.2=0))||(!(O1 p.frm.row p.frm.col r c)))||(!(O1 p.to_.row p.to_.col r c)))||(p.frm.wrap&&(!decide (p.frm.col=(IntKind.i64.wrap (c - (1:Int))))))) with
 | true=>exact fun _=>rfl
 | false=>exact fun h=>absurd rfl h
theorem B2u (Q:List Act→Prop):∀ (l:List (List Act)) (w:List Act) (k:Int),(∀ e ∈ l,(U1 e).2=0→Q e)→(k<0→∃ e ∈ l,(U1 e).2=0)→(0≤k→Q w)→Q (I8 l w k).1
 | [],w,k,_,h,hw=>hw (Int.not_lt.1 fun d=>by obtain ⟨e,f,_⟩:=h d;cases f)
 | e::l,w,k,hl,h,hw=>by
  have a:=fun x b=>hl x (List.mem_cons_of_mem _ b)
  simp only [I8,C9]
  cases h1:decide ((U1 e).2=0) with
  | false =>
   refine B2u Q l w k a (fun d=>?_) hw
   obtain ⟨x,b,c⟩:=h d
   rcases List.mem_cons.1 b with rfl | b
   ·exact absurd c (of_decide_eq_false h1)
   ·exact ⟨x,b,c⟩
  | true =>
   cases h2:((decide ((0:Int)≤k))&&(decide (k≤((U1 e).1.length:Int)))) with
   | true =>
    have d:0≤k:=by simp only [Bool.and_eq_true,decide_eq_true_eq] at h2;exact h2.1
    exact B2u Q l w k a (fun h=>absurd h opx) hw
   | false=>exact B2u Q l e _ a (fun h=>absurd h opx) fun _=>hl e (List.mem_cons_self ..) (of_decide_eq_true h1)
theorem D4j (c0:Pth):∀ (l:List (List Act)),([{Act.zero with kind:=19,n:=c0.to_.row+1,m:=c0.to_.col+1}]:List Act) ∈ F1 c0 l
 | []=>List.mem_singleton.2 rfl
 | d::l=>by
  have h:∀ (A:List (List Act)) (t:Nat),([{Act.zero with kind:=19,n:=c0.to_.row+1,m:=c0.to_.col+1}]:List Act) ∈ G2 c0 d (F1 c0 l) A t:=fun A=>by
   induction A with
   | nil=>exact fun t=>D4j c0 l
   | cons a A ih =>
    intro t
    rw [G2]
    cases ((decide (((d++a).length:Int)=0))&&c0.frm.wrap) with
    | true=>exact ih _
    | false=>exact List.mem_cons_of_mem _ (ih _)
  rw [F1];simp only [C9];exact h _ _
theorem C3e (c r:Int) (f:Cur) (t:Plc):A2t c r f t=true:=by
 unfold A2t C9
 rw [D9i]
 simp only [Bool.not_true,cond_false]
 by_cases hk:G1 c r ⟨f,t⟩=0
 ·have i:=B8l (c:=c) (r:=r) (p:=⟨f,t⟩) (by rw [hk];rfl)
  dsimp only at i
  have d:2≤c∧c≤80:=by omega
  have hr:1≤r∧r≤40:=by omega
  have v:(J4 c r f t).2=0∧(J4 c r f t).1.length≤100∧(∀ a ∈ (J4 c r f t).1,J3 a=0) ∧
    A6e c r (List.replicate r.toNat ⟨List.replicate c.toNat (M8 Sty.zero),false⟩) (List.replicate r.toNat ⟨List.replicate c.toNat (M8 Sty.zero),false⟩) (A1y c).1 (J4 c r f t).1 f ⟨t.row,t.col,false⟩:=by
   have n:∀ e ∈ H1 ⟨f,t⟩,B2l e:=(B3q (c0:=⟨f,t⟩) otw).1
   unfold J4
   rw [hk]
   show (I8 (H1 ⟨f,t⟩) [] (-1)).2=0∧_
   refine ⟨(B3b _ _ _ n ⟨by decide,fun a g=>by cases g⟩).2,?_⟩
   refine B2u (fun e=>e.length≤100∧(∀ a ∈ e,J3 a=0)∧A6e c r _ _ _ e f ⟨t.row,t.col,false⟩) _ _ _ (fun e m h=>?_) (fun _=>⟨_,D4j ⟨f,t⟩ _,?_⟩) (fun h=>absurd h ozw)
   ·have o:=(n e m).1
    exact ⟨o,(D0w opx).1 h,C7n d hr (p:=⟨f,t⟩) otw otw otw otw e m⟩
   ·refine (D0w (Nat.le_of_ble_eq_true rfl)).2 fun a g=>?_
    rw [List.mem_singleton.1 g]
    exact D9y otw otw
  obtain ⟨j,o,g,y⟩:=v
  rw [j,B6x c r d hr]
  simp only [decide_true,Bool.not_true,cond_false]
  have q:Y4 (sAt c r f) (List.replicate r.toNat ⟨List.replicate c.toNat (M8 Sty.zero),false⟩) (List.replicate r.toNat ⟨List.replicate c.toNat (M8 Sty.zero),false⟩) (A1y c).1=0:=by
   have k:∀ x ∈ (List.replicate r.toNat ⟨List.replicate c.toNat (M8 Sty.zero),false⟩:List (Rwc Cel)),A4t x.l x.b=0∧(x.l.length:Int)=c:=fun x w=>by
    rw [List.eq_of_mem_replicate w];exact ⟨D5r c d _,by dsimp only;rw [List.length_replicate];omega⟩
   refine D6r (s:=sAt c r f) (B5g (u:=f) d hr opx opx i.2.2.2) (C7u d hr) (C7u d hr) (D1t (by rw [List.length_replicate];show _=r;omega) hr k) (D1t (by rw [List.length_replicate];show _=r;omega) hr k) d (D7q c d)
    E0z (show A0x Sts.zero=0 by decide +kernel) (show A6k A2e=0 by decide +kernel) ⟨show (0:Int)≤0 by decide,show (0:Int)≤6 by decide⟩ E1s rfl
  have hR:A9k (sAt c r f) (List.replicate r.toNat ⟨List.replicate c.toNat (M8 Sty.zero),false⟩) (List.replicate r.toNat ⟨List.replicate c.toNat (M8 Sty.zero),false⟩) (A1y c).1 (J4 c r f t).1=(sAt c r ⟨t.row,t.col,false⟩,(List.replicate r.toNat ⟨List.replicate c.toNat (M8 Sty.zero),false⟩),(List.replicate r.toNat ⟨List.replicate c.toNat (M8 Sty.zero),false⟩),(A1y c).1,0):=by
   unfold A9k
   rw [q,decide_eq_false (show ¬ (131072:Int)<_ by omega)]
   show Y2 _ _ _ _ _ _ 0=_
   rw [D6q _ _ _ _ g];exact C7j 0 y
  rw [show ({({ScrC.zero with cols:=c,rows:=r,modes:=A2e,bottom:=r - 1}:ScrC) with cursor:=f}:ScrC)=sAt c r f from rfl,hR]
  exact D3l _ _ _ _
 ·have j:G1 c r ⟨f,t⟩=2:=C9w hk
  have i:J4 c r f t=([],2):=by unfold J4;rw [j];rfl
  rw [i];rfl
end Go.Proofs.YtioaekgoceinkaaGreatDoor
