import Derived.Test.YtanighkpfmgnbaaGreatDoorMQ2
import Derived.Test.YtanighkpfmgnbaaGreatDoorMN2
set_option linter.unusedVariables false
set_option linter.unusedSimpArgs false
set_option linter.unnecessarySimpa false
set_option maxRecDepth 10000
namespace Go.Proofs.YtanighkpfmgnbaaGreatDoor
open Go Go.Fen
theorem D7t:A6w=true:=by decide +kernel
theorem C8v {c r:Int} {p:Pth} (h:F3 c r p≠0):F3 c r p=2:=by
 revert h;unfold F3
 cases ((((!decide ((V8 c r)=0))||(!(I0 p.frm.row p.frm.col r c)))||(!(I0 p.to_.row p.to_.col r c)))||(p.frm.wrap&&(!decide (p.frm.col=(IntKind.i64.wrap (c - (1:Int))))))) with
 | true=>exact fun _=>rfl
 | false=>exact fun h=>absurd rfl h
end Go.Proofs.YtanighkpfmgnbaaGreatDoor
set_option linter.unusedVariables false
set_option linter.unusedSimpArgs false
set_option linter.unnecessarySimpa false
set_option maxRecDepth 10000
namespace Go.Proofs.YtanighkpfmgnbaaGreatDoor
open Go Go.Fen
theorem C0z {c0:Pth} {e:List Act} (he:e ∈ F6 c0) :
  (e=[]∧c0.frm.row=c0.to_.row)∨(e=K9 0 (c0.frm.row - c0.to_.row)∧c0.to_.row<c0.frm.row)∨(e=K9 1 (c0.to_.row - c0.frm.row)∧c0.frm.row<c0.to_.row)∨(e=L8 5 (c0.to_.row - c0.frm.row)∧c0.frm.row<c0.to_.row):=by
 revert he;unfold F6;simp only [B4];intro he
 rcases Int.lt_trichotomy c0.frm.row c0.to_.row with h | h | h
 ·rw [decide_eq_false (show ¬ c0.to_.row - c0.frm.row=0 by omega),decide_eq_false (show ¬ c0.to_.row - c0.frm.row<0 by omega)] at he
  have he:e ∈ K9 1 (c0.to_.row - c0.frm.row)::(bif decide (c0.to_.row - c0.frm.row≤4) then [L8 5 (c0.to_.row - c0.frm.row)] else []):=he
  rcases List.mem_cons.1 he with he | he
  ·exact .inr (.inr (.inl ⟨he,h⟩))
  ·cases hd:decide (c0.to_.row - c0.frm.row≤4) with
   | true=>rw [hd] at he;exact .inr (.inr (.inr ⟨List.mem_singleton.1 he,h⟩))
   | false=>rw [hd] at he;cases he
 ·rw [decide_eq_true (show c0.to_.row - c0.frm.row=0 by omega)] at he
  exact .inl ⟨List.mem_singleton.1 he,h⟩
 ·rw [decide_eq_false (show ¬ c0.to_.row - c0.frm.row=0 by omega),decide_eq_true (show c0.to_.row - c0.frm.row<0 by omega),show -(c0.to_.row - c0.frm.row)=c0.frm.row - c0.to_.row by omega] at he
  exact .inr (.inl ⟨List.mem_singleton.1 he,h⟩)
theorem B0n {α:Type} {x y:α} {l:List α} (h:x ∈ l++[y]):x ∈ l∨x=y:=by
 rcases List.mem_append.1 h with h | h
 ·exact .inl h
 ·exact .inr (List.mem_singleton.1 h)
def C6l (p:Pth) (e:List Act):Prop :=
 (e=[]∧p.frm.col=p.to_.col)∨e=[{Act.zero with kind:=22,n:=p.to_.col+1}]∨(e=K9 2 (p.to_.col - p.frm.col)∧p.frm.col<p.to_.col)∨(e=K9 3 (-(p.to_.col - p.frm.col))∧p.to_.col<p.frm.col) ∨
  (e=L8 3 (-(p.to_.col - p.frm.col))∧p.to_.col<p.frm.col)∨(e=L8 6 1∧p.to_.col=0)∨(e=L8 6 1++K9 2 p.to_.col∧p.to_.col≠0)
theorem C9m {p:Pth} {out:List (List Act)} (h:∀ e ∈ out,C6l p e):∀ e ∈ G9 p out,C6l p e:=by
 unfold G9;simp only [B4]
 cases hq:decide (p.to_.col=0) with
 | true=>intro e he;rcases B0n he with he | he;exact h e he;exact .inr (.inr (.inr (.inr (.inr (.inl ⟨he,of_decide_eq_true hq⟩)))))
 | false=>intro e he;rcases B0n he with he | he;exact h e he;exact .inr (.inr (.inr (.inr (.inr (.inr ⟨he,of_decide_eq_false hq⟩)))))
theorem D4y {p:Pth} {out:List (List Act)} (h:∀ e ∈ out,C6l p e):∀ e ∈ G5 p out,C6l p e:=by
 unfold G5 I2;simp only [B4]
 cases hq:decide ((p.to_.col - p.frm.col)<0) with
 | true =>
  have hlt:p.to_.col<p.frm.col:=by have:=of_decide_eq_true hq;omega
  have h1:∀ e ∈ out++[K9 3 (-(p.to_.col - p.frm.col))],C6l p e:=fun e he=>by
   rcases B0n he with he | he
   ·exact h e he
   ·exact .inr (.inr (.inr (.inl ⟨he,hlt⟩)))
  cases decide ((-(p.to_.col - p.frm.col))≤4) with
  | true=>exact C9m (fun e he=>by
    rcases B0n he with he | he
    ·exact h1 e he
    ·exact .inr (.inr (.inr (.inr (.inl ⟨he,hlt⟩)))))
  | false=>exact C9m h1
 | false=>exact C9m h
theorem D2j {p:Pth}:∀ e ∈ J7 p,C6l p e:=by
 have hj:∀ {out:List (List Act)},(∀ e ∈ out,C6l p e)→∀ e ∈ I3 p out,C6l p e:=fun {out} h=>by
  have h1:∀ e ∈ out++[[{Act.zero with kind:=22,n:=p.to_.col+1}]],C6l p e:=fun e he=>by
   rcases B0n he with he | he
   ·exact h e he
   ·exact .inr (.inl he)
  unfold I3;simp only [B4]
  cases hq:decide ((0:Int)<(p.to_.col - p.frm.col)) with
  | true=>exact D4y (fun e he=>by
    rcases B0n he with he | he
    ·exact h1 e he
    ·exact .inr (.inr (.inl ⟨he,by have:=of_decide_eq_true hq;omega⟩)))
  | false=>exact D4y h1
 unfold J7
 cases hq:decide ((p.to_.col - p.frm.col)=0) with
 | true=>exact hj (fun e he=>by rw [show e=[] from List.mem_singleton.1 he];exact .inl ⟨rfl,by have:=of_decide_eq_true hq;omega⟩)
 | false=>exact hj (fun e he=>by cases he)
theorem D1n (c0:Pth) (el:List Act) (ag:List (List Act)) (Q:List Act→Prop) (hag:∀ e ∈ ag,Q e):∀ (A:List (List Act)) (t:Nat),(∀ a ∈ A,(el++a≠[]∨c0.frm.wrap=false)→Q (el++a))→∀ e ∈ F5 c0 el ag A t,Q e
 | [],_,_=>hag
 | a::A,t,h=>by
  have hr:=D1n c0 el ag Q hag A (t+1) (fun x hx=>h x (List.mem_cons_of_mem _ hx))
  rw [F5]
  cases hc:((decide (((el++a).length:Int)=0))&&c0.frm.wrap) with
  | true=>exact hr
  | false =>
   intro e he
   rcases List.mem_cons.1 he with rfl | he
   ·refine h a (List.mem_cons_self ..) ?_
    rcases Bool.and_eq_false_iff.1 hc with hc | hc
    ·left;intro h0;rw [h0] at hc;cases hc
    ·exact .inr hc
   ·exact hr e he
theorem C5z (c0:Pth) (Q:List Act→Prop) (hf:Q [{Act.zero with kind:=19,n:=c0.to_.row+1,m:=c0.to_.col+1}]):∀ (l:List (List Act)),(∀ d ∈ l,∀ a ∈ J7 c0,(d++a≠[]∨c0.frm.wrap=false)→Q (d++a))→∀ e ∈ C4 c0 l,Q e
 | [],_=>fun e he=>by rw [show e=_ from List.mem_singleton.1 he];exact hf
 | d::l,h=>by
  rw [C4];simp only [B4]
  exact D1n c0 d _ Q (C5z c0 Q hf l (fun x hx=>h x (List.mem_cons_of_mem _ hx))) _ 0 (h d (List.mem_cons_self ..))
theorem D6o (c0:Pth):∀ (l:List (List Act)),0<(C4 c0 l).length
 | []=>Nat.one_pos
 | d::l=>by
  have h:∀ (A:List (List Act)) (t:Nat),0<(F5 c0 d (C4 c0 l) A t).length:=fun A=>by
   induction A with
   | nil=>exact fun t=>D6o c0 l
   | cons a A ih =>
    intro t
    rw [F5]
    cases ((decide (((d++a).length:Int)=0))&&c0.frm.wrap) with
    | true=>exact ih _
    | false=>exact Nat.succ_pos _
  rw [C4];simp only [B4];exact h _ _
end Go.Proofs.YtanighkpfmgnbaaGreatDoor
set_option linter.unusedVariables false
set_option linter.unusedSimpArgs false
set_option linter.unnecessarySimpa false
set_option maxRecDepth 10000
namespace Go.Proofs.YtanighkpfmgnbaaGreatDoor
open Go Go.Fen
theorem B3y {n m:Int} (h:0≤n∧n≤3∧1≤m∧m≤100):S3 {Act.zero with kind:=20,n:=n,m:=m}=true:=by
 show ((((Q1 n 0 3)&&(S1 m))&&decide (Col.zero=Col.zero))&&decide (([]:List UInt8)=[]))=true
 unfold S1 Q1
 simp only [Bool.and_eq_true,decide_eq_true_eq,and_true]
 omega
theorem D6r {n:Int} (h:1≤n∧n≤100):S3 {Act.zero with kind:=22,n:=n}=true:=by
 show ((((S1 n)&&decide ((0:Int)=0))&&decide (Col.zero=Col.zero))&&decide (([]:List UInt8)=[]))=true
 unfold S1 Q1
 simp only [Bool.and_eq_true,decide_eq_true_eq,and_true]
 omega
theorem D5j {n m:Int} (h:1≤n∧n≤100∧1≤m∧m≤100):S3 {Act.zero with kind:=19,n:=n,m:=m}=true:=by
 show ((((S1 n)&&(S1 m))&&decide (Col.zero=Col.zero))&&decide (([]:List UInt8)=[]))=true
 unfold S1 Q1
 simp only [Bool.and_eq_true,decide_eq_true_eq,and_true]
 omega
theorem C9f:A4l []:=fun a ha=>by cases ha
theorem A8y {a:Act} (h:S3 a=true):A4l [a]:=fun b hb=>by rw [List.mem_singleton.1 hb];exact h
theorem B7l {n:Nat} {a:Act} (h:S3 a=true):A4l (List.replicate n a):=fun b hb=>by rw [List.eq_of_mem_replicate hb];exact h
theorem C9b {u v:List Act} (h:A4l u) (k:A4l v):A4l (u++v):=fun a ha=>by
 rcases List.mem_append.1 ha with ha | ha
 ·exact h a ha
 ·exact k a ha
theorem D3q {c0:Pth} (hb:0≤c0.frm.row∧c0.frm.row≤40∧0≤c0.to_.row∧c0.to_.row≤40) {e:List Act} (he:e ∈ F6 c0):A4l e:=by
 rcases C0z he with ⟨rfl,h⟩ | ⟨rfl,h⟩ | ⟨rfl,h⟩ | ⟨rfl,h⟩
 ·exact C9f
 ·exact A8y (B3y (by omega))
 ·exact A8y (B3y (by omega))
 ·rw [A6d];exact B7l rfl
theorem C7e {p:Pth} (hb:0≤p.frm.col∧p.frm.col≤80∧0≤p.to_.col∧p.to_.col≤80) {e:List Act} (he:e ∈ J7 p):A4l e:=by
 rcases D2j e he with ⟨rfl,h⟩ | rfl | ⟨rfl,h⟩ | ⟨rfl,h⟩ | ⟨rfl,h⟩ | ⟨rfl,h⟩ | ⟨rfl,h⟩
 ·exact C9f
 ·exact A8y (D6r (by omega))
 ·exact A8y (B3y (by omega))
 ·exact A8y (B3y (by omega))
 ·rw [A6d];exact B7l rfl
 ·rw [A6d];exact B7l rfl
 ·rw [A6d];exact C9b (B7l rfl) (A8y (B3y (by omega)))
theorem D8y {f:Cur} {t:Plc} (hb:(0≤f.row∧f.row≤40∧0≤t.row∧t.row≤40)∧(0≤f.col∧f.col≤80∧0≤t.col∧t.col≤80)):∀ e ∈ C2 ⟨f,t⟩,A4l e:=fun e he =>
 C5z ⟨f,t⟩ A4l (A8y (D5j (by show 1≤t.row+1∧t.row+1≤100∧1≤t.col+1∧t.col+1≤100;omega))) _ (fun d hd a ha _=>C9b (D3q hb.1 hd) (C7e hb.2 ha)) e he
theorem D3j {f:Cur} {t:Plc} (hb:(0≤f.row∧f.row≤40∧0≤t.row∧t.row≤40)∧(0≤f.col∧f.col≤80∧0≤t.col∧t.col≤80)):∀ e ∈ C2 ⟨f,t⟩,J6 e=(enc e,0):=fun e he=>by
 have h2:=(A9s (c0:=⟨f,t⟩) hb).1 e he
 exact D0p (Nat.le_trans h2.1 (by decide)) (fun a ha=>by have:=(h2.2 a ha).2;unfold E2a;omega) (D8y hb e he)
def A8d (e:List Act):Int:=((J6 e).1.length:Int)
theorem B4c {el:List Act} (h0:(J6 el).2=0) (l:List (List Act)) (w:List Act) (k:Int):D6 (el::l) w k=if 0≤k∧k≤A8d el then D6 l w k else D6 l el (A8d el):=by
 rw [D6];simp only [B4]
 rw [h0]
 unfold A8d
 by_cases h:0≤k∧k≤((J6 el).1.length:Int)
 ·rw [if_pos h,decide_eq_true h.1,decide_eq_true h.2];rfl
 ·rw [if_neg h,show ((!decide ((0:Int)=0))||((decide ((0:Int)≤k))&&(decide (k≤((J6 el).1.length:Int)))))=false by
   rw [show (!decide ((0:Int)=0))=false from rfl,Bool.false_or,Bool.and_eq_false_iff,decide_eq_false_iff_not,decide_eq_false_iff_not];omega];rfl
theorem C1r:∀ (l:List (List Act)) (w:List Act),(∀ e ∈ l,(J6 e).2=0)→((D6 l w (A8d w)).1=w∨(D6 l w (A8d w)).1 ∈ l)∧A8d (D6 l w (A8d w)).1≤A8d w∧∀ e ∈ l,A8d (D6 l w (A8d w)).1≤A8d e
 | [],w,_=>⟨.inl rfl,by rw [D6];exact Int.le_refl _,fun e he=>by cases he⟩
 | el::l,w,h=>by
  have hl:=fun e he=>h e (List.mem_cons_of_mem _ he)
  have h0:0≤A8d w:=by unfold A8d;omega
  rw [B4c (h el (List.mem_cons_self ..))]
  by_cases hc:0≤A8d w∧A8d w≤A8d el
  ·rw [if_pos hc]
   obtain ⟨h1,h2,h3⟩:=C1r l w hl
   refine ⟨h1.imp_right (List.mem_cons_of_mem _),h2,fun e he=>?_⟩
   rcases List.mem_cons.1 he with rfl | he
   ·omega
   ·exact h3 e he
  ·rw [if_neg hc]
   obtain ⟨h1,h2,h3⟩:=C1r l el hl
   refine ⟨.inr ?_,by omega,fun e he=>?_⟩
   ·rcases h1 with h1 | h1
    ·rw [h1];exact List.mem_cons_self ..
    ·exact List.mem_cons_of_mem _ h1
   ·rcases List.mem_cons.1 he with rfl | he
    ·exact h2
    ·exact h3 e he
theorem D7b {l:List (List Act)} (hne:l≠[]) (h:∀ e ∈ l,(J6 e).2=0):(D6 l [] (-1)).1 ∈ l∧∀ e ∈ l,A8d (D6 l [] (-1)).1≤A8d e:=by
 cases l with
 | nil=>exact absurd rfl hne
 | cons x l =>
  rw [B4c (h x (List.mem_cons_self ..)),if_neg (by omega)]
  obtain ⟨h1,h2,h3⟩:=C1r l x (fun e he=>h e (List.mem_cons_of_mem _ he))
  refine ⟨?_,fun e he=>?_⟩
  ·rcases h1 with h1 | h1
   ·rw [h1];exact List.mem_cons_self ..
   ·exact List.mem_cons_of_mem _ h1
  ·rcases List.mem_cons.1 he with rfl | he
   ·exact h2
   ·exact h3 e he
theorem D0s (p:Pth) (out:List (List Act)):∃ tl,G9 p out=out++tl:=by
 unfold G9;simp only [B4]
 cases decide (p.to_.col=0)<;>exact ⟨_,rfl⟩
theorem D5w (p:Pth) (out:List (List Act)):∃ tl,G5 p out=out++tl:=by
 unfold G5 I2;simp only [B4]
 cases decide ((p.to_.col - p.frm.col)<0) with
 | true =>
  cases decide ((-(p.to_.col - p.frm.col))≤4) with
  | true=>obtain ⟨tl,h⟩:=D0s p (out++[K9 3 (-(p.to_.col - p.frm.col))]++[L8 3 (-(p.to_.col - p.frm.col))]);exact ⟨_,h.trans (by rw [List.append_assoc,List.append_assoc])⟩
  | false=>obtain ⟨tl,h⟩:=D0s p (out++[K9 3 (-(p.to_.col - p.frm.col))]);exact ⟨_,h.trans (by rw [List.append_assoc])⟩
 | false=>exact D0s p out
theorem D0z (p:Pth) (h:p.frm.col=p.to_.col):∃ tl,J7 p=[]::tl:=by
 unfold J7
 rw [decide_eq_true (show p.to_.col - p.frm.col=0 by omega)]
 show ∃ tl,I3 p [[]]=[]::tl
 unfold I3;simp only [B4]
 cases decide ((0:Int)<(p.to_.col - p.frm.col)) with
 | true=>obtain ⟨tl,h⟩:=D5w p ([[]]++[[{Act.zero with kind:=22,n:=p.to_.col+1}]]++[K9 2 (p.to_.col - p.frm.col)]);exact ⟨_,h⟩
 | false=>obtain ⟨tl,h⟩:=D5w p ([[]]++[[{Act.zero with kind:=22,n:=p.to_.col+1}]]);exact ⟨_,h⟩
theorem D0m (t:Plc):∃ tl,C2 ⟨⟨t.row,t.col,false⟩,t⟩=[]::tl:=by
 obtain ⟨tl,h⟩:=D0z ⟨⟨t.row,t.col,false⟩,t⟩ rfl
 have hd:F6 ⟨⟨t.row,t.col,false⟩,t⟩=[[]]:=by
  unfold F6;rw [decide_eq_true (show (⟨⟨t.row,t.col,false⟩,t⟩:Pth).to_.row - (⟨⟨t.row,t.col,false⟩,t⟩:Pth).frm.row=0 by show t.row - t.row=0;omega)];rfl
 show ∃ tl,C4 _ (F6 ⟨⟨t.row,t.col,false⟩,t⟩)=[]::tl
 rw [hd,C4];simp only [B4]
 rw [h,F5]
 exact ⟨_,rfl⟩
theorem C2m:∀ (l:List (List Act)),(∀ e ∈ l,(J6 e).2=0)→(D6 l [] 0).1=[]
 | [],_=>rfl
 | el::l,h=>by
  rw [B4c (h el (List.mem_cons_self ..)),if_pos ⟨Int.le_refl _,by unfold A8d;omega⟩]
  exact C2m l (fun e he=>h e (List.mem_cons_of_mem _ he))
theorem D5t {f:Cur} {t:Plc}:∀ e ∈ C2 ⟨f,t⟩,e=[]→f=⟨t.row,t.col,false⟩ :=
 C5z ⟨f,t⟩ (fun e=>e=[]→f=⟨t.row,t.col,false⟩) (fun h=>by cases h) _ fun d hd a ha hk h=>by
  obtain ⟨rfl,rfl⟩:=List.append_eq_nil_iff.1 h
  have hw:f.wrap=false:=hk.resolve_left (fun h=>h rfl)
  have hr:f.row=t.row:=by
   rcases C0z hd with ⟨_,h⟩ | ⟨h,_⟩ | ⟨h,_⟩ | ⟨h,hlt⟩
   ·exact h
   ·cases h
   ·cases h
   ·have hlt:f.row<t.row:=hlt
    have:=congrArg List.length h
    rw [A6d,List.length_replicate] at this
    have:0=(t.row - f.row).toNat:=this
    omega
  have hc:f.col=t.col:=by
   rcases D2j [] ha with ⟨_,h⟩ | h | ⟨h,_⟩ | ⟨h,_⟩ | ⟨h,hlt⟩ | ⟨h,_⟩ | ⟨h,_⟩
   ·exact h
   ·cases h
   ·cases h
   ·cases h
   ·have hlt:t.col<f.col:=hlt
    have:=congrArg List.length h
    rw [A6d,List.length_replicate] at this
    have:0=(-(t.col - f.col)).toNat:=this
    omega
   ·rw [A6d] at h;cases h
   ·rw [A6d] at h;cases h
  obtain ⟨r,c,w⟩:=f
  simp only at hw hr hc
  rw [hw,hr,hc]
theorem C7g (f:Cur) (t:Plc) (B:List Act×Int) (rb:List UInt8×Int):∀ (l:List (List Act)) (k:Nat),(∀ e ∈ l,(J6 e).2=0∧(rb.1.length:Int)≤A8d e)→M3 f t B rb l k=((decide ((B.1.length:Int)=0)) == (decide (f={Cur.zero with row:=t.row,col:=t.col})))
 | [],_,_=>rfl
 | e::l,k,h=>by
  obtain ⟨h1,h2⟩:=h e (List.mem_cons_self ..)
  rw [M3];simp only [B4]
  unfold A8d at h2
  rw [h1,decide_eq_false (show ¬ ((J6 e).1.length:Int)<(rb.1.length:Int) by omega)]
  exact C7g f t B rb l (k+1) (fun x hx=>h x (List.mem_cons_of_mem _ hx))
theorem C0b (c r:Int) (f:Cur) (t:Plc):A2h c r f t=true:=by
 unfold A2h
 rw [D7t];simp only [B4]
 rw [D1q,D3b]
 by_cases h0:F3 c r ⟨f,t⟩=0
 ·have hb:=A5x (c:=c) (r:=r) (c0:=⟨f,t⟩) (by rw [h0];rfl)
  have hg:=D3j hb
  have h2:∀ e ∈ C2 ⟨f,t⟩,(J6 e).2=0:=fun e he=>by rw [hg e he]
  have hne:C2 ⟨f,t⟩≠[]:=fun h=>by
   have:=D6o ⟨f,t⟩ (F6 ⟨f,t⟩)
   rw [show C4 ⟨f,t⟩ (F6 ⟨f,t⟩)=[] from h] at this
   exact absurd this (Nat.lt_irrefl 0)
  obtain ⟨h3,h4⟩:=D7b hne h2
  have h5:(D6 (C2 ⟨f,t⟩) [] (-1)).2=0:=(B1n _ _ _ (A9s hb).1 ⟨Nat.zero_le _,fun a ha=>by cases ha⟩).2
  rw [h0]
  show (bif (!decide ((0:Int)=0))||(!decide ((D6 (C2 ⟨f,t⟩) [] (-1)).2=0)) then _ else bif (!decide ((J6 (D6 (C2 ⟨f,t⟩) [] (-1)).1).2=0)) then false else M3 f t (D6 (C2 ⟨f,t⟩) [] (-1)) (J6 (D6 (C2 ⟨f,t⟩) [] (-1)).1) (C2 ⟨f,t⟩) 0)=true
  rw [h5,h2 _ h3]
  show M3 f t (D6 (C2 ⟨f,t⟩) [] (-1)) (J6 (D6 (C2 ⟨f,t⟩) [] (-1)).1) (C2 ⟨f,t⟩) 0=true
  rw [C7g f t _ _ _ 0 (fun e he=>⟨h2 e he,h4 e he⟩)]
  by_cases hf:f=⟨t.row,t.col,false⟩
  ·have hB:(D6 (C2 ⟨f,t⟩) [] (-1)).1=[]:=by
    subst hf
    obtain ⟨tl,htl⟩:=D0m t
    rw [htl] at h2 ⊢
    rw [B4c (h2 [] (List.mem_cons_self ..)),if_neg (by omega),show A8d []=0 by unfold A8d;decide +kernel]
    exact C2m tl (fun e he=>h2 e (List.mem_cons_of_mem _ he))
   rw [hB,decide_eq_true (show f={Cur.zero with row:=t.row,col:=t.col} from hf)];rfl
  ·rw [decide_eq_false (show ¬ f={Cur.zero with row:=t.row,col:=t.col} from hf)]
   have hB:(D6 (C2 ⟨f,t⟩) [] (-1)).1≠[]:=fun h=>hf (D5t _ h3 h)
   rw [decide_eq_false (by intro h;exact hB (List.length_eq_zero_iff.1 (by omega)))];rfl
 ·rw [C8v h0];rfl
end Go.Proofs.YtanighkpfmgnbaaGreatDoor
