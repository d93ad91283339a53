import Derived.Test.YthcjfkljekdioaaGreatDoorMB4
set_option linter.unusedVariables false
set_option linter.unusedSimpArgs false
namespace Go.Proofs.YthcjfkljekdioaaGreatDoor
open Go Go.Fen
theorem B5h {x:Cel} {l:List Cel} {n m:Nat} (h:l.take n=List.replicate n x) (hm:m≤n):l.take m=List.replicate m x:=by
 rw [← Nat.min_eq_left hm,← List.take_take,h,List.take_replicate]
theorem A7w (x:Cel) (N:Nat):∀ (fu:Nat) (l:List Cel) (n:Nat),l.length=N→1≤n→N - n<fu→l.take n=List.replicate (min n N) x→E6 fu l n=List.replicate N x
 | 0,l,n,hl,hn,hf,ht=>by omega
 | fu+1,l,n,hl,hn,hf,ht=>by
  simp only [E6]
  by_cases c:(n:Int)<(l.length:Int)
  ·rw [decide_eq_true c,cond_true]
   have hnN:n<N:=by omega
   rw [Nat.min_eq_left (by omega)] at ht
   have hlen:(l.take n++(l.take (min n (l.length - n))++l.drop (n+min n (l.length - n)))).length=N:=by
    simp only [List.length_append,List.length_take,List.length_drop];omega
   refine A7w x N fu _ _ hlen (by omega) (by omega) ?_
   have hm:=Nat.min_le_left n (l.length - n)
   have hm2:=Nat.min_le_right n (l.length - n)
   generalize min n (l.length - n)=m at hm hm2 ⊢
   rw [ht,B5h ht hm,Nat.min_eq_left (b:=N) (by omega),← List.append_assoc,List.replicate_append_replicate,List.take_append_of_le_length (by simp),List.take_of_length_le (by simp)]
  ·rw [decide_eq_false c,cond_false]
   rw [List.take_of_length_le (by omega),Nat.min_eq_right (by omega)] at ht;exact ht
theorem B8z (x:Cel) (c:Int) (hc:2≤c∧c≤80):H5 [x] c=List.replicate c.toNat x:=by
 unfold H5 G6
 rw [show ([x]:List Cel).length=1 from rfl,B8s 1 c rfl (by omega)]
 show E6 (_ - (min 1 (List.replicate ((IntKind.i64.wrap c).toNat) Cel.zero).length)+1) (List.take (List.replicate ((IntKind.i64.wrap c).toNat) Cel.zero).length [x]++List.drop 1 (List.replicate ((IntKind.i64.wrap c).toNat) Cel.zero)) (min 1 (List.replicate ((IntKind.i64.wrap c).toNat) Cel.zero).length)=_
 rw [wr6 (by omega),List.length_replicate,Nat.min_eq_left (by omega),List.take_of_length_le (by simp;omega)]
 refine A7w x c.toNat _ _ 1 (by simp;omega) (by omega) (by simp) ?_
 rw [Nat.min_eq_left (by omega)];rfl
theorem C5u:D7 Sty.zero=0:=by decide +kernel
theorem B7o (c:Int) (hc:2≤c∧c≤80):A7y c Sty.zero=(List.replicate c.toNat (P0 Sty.zero),false,0):=by
 unfold A7y
 rw [C5u,decide_eq_false (by omega),decide_eq_false (by omega)]
 simp only [Bool.or_self,decide_true,Bool.not_true,cond_false,G6];rw [B8z _ _ hc]
theorem A7h (w:Int) (hw:2≤w∧w≤80):∀ (tl l:List (Rwc Cel)) (t:Nat),l.length=t+tl.length→l.take t=List.replicate t ⟨List.replicate w.toNat (P0 Sty.zero),false⟩ →
  K1 w Sty.zero tl l t=List.replicate (t+tl.length) ⟨List.replicate w.toNat (P0 Sty.zero),false⟩
 | [],l,t,hl,ht=>by
  simp only [K1]
  rw [List.take_of_length_le (by simp at hl;omega)] at ht;exact ht
 | _::tl,l,t,hl,ht=>by
  simp only [K1,G6]
  rw [B7o w hw,A7h w hw tl _ (t+1) (by simp at hl ⊢;omega) ?_]
  ·simp [Nat.add_assoc,Nat.add_comm 1]
  ·have hlt:t<l.length:=by simp at hl;omega
   rw [List.take_add_one,List.take_set_of_le (Nat.le_refl _),ht,List.getElem?_set_self hlt,List.replicate_succ'];rfl
theorem B5s (c r:Int) (hc:2≤c∧c≤80) (hr:1≤r∧r≤40):U5 c r Sty.zero=(List.replicate r.toNat ⟨List.replicate c.toNat (P0 Sty.zero),false⟩,0):=by
 unfold U5
 rw [C5u,decide_eq_false (by omega),decide_eq_false (by omega),decide_eq_false (by omega),decide_eq_false (by omega)]
 simp only [Bool.or_self,decide_true,Bool.not_true,cond_false,G6]
 unfold X1
 rw [A7h c hc _ _ 0 (by simp) rfl]
 simp
theorem B3k (c r:Int) (h:¬ (2≤c∧c≤80∧1≤r∧r≤40)):U5 c r Sty.zero=([],2):=by
 unfold U5
 have:((((decide (c<2))||(decide ((80:Int)<c)))||(decide (r<1)))||(decide ((40:Int)<r)))=true:=by
  simp only [Bool.or_eq_true,decide_eq_true_eq];omega
 rw [this];rfl
theorem B2p (c:Int):∀ (fu:Nat) (t:List Bool) (k:Nat),(W9 c fu t k).2=0
 | 0,_,_=>rfl
 | fu+1,t,k=>by
  simp only [W9]
  cases decide ((k:Int)<c) with
  | true=>exact B2p c fu _ _
  | false=>rfl
theorem C5a (c:Int) (hc:2≤c∧c≤80):(A4s c).2=0:=by
 unfold A4s
 rw [decide_eq_false (by omega),decide_eq_false (by omega)];exact B2p _ _ _ _
theorem A0e:∀ (l:List (Rwc Cel)) (t:Nat),K3 l t=l.map Rwc.l
 | [],t=>rfl
 | a::l,t=>by simp only [K3,List.map_cons,List.take_length];rw [A0e]
theorem B1y (s:ScrC):∀ (l f:List (List Cel)),K0 s l f=((⟨s.cols,(⟨s.cursor.row,s.cursor.col⟩:Plc),s.modes.visible,s.shape,s.title⟩:FrmC),f++l)
 | [],f=>by simp [K0]
 | a::l,f=>by simp only [K0];rw [B1y];simp
theorem C1v (s:ScrC) (m a:List (Rwc Cel)) (t:List Bool):U1 s m a t=((⟨s.cols,(⟨s.cursor.row,s.cursor.col⟩:Plc),s.modes.visible,s.shape,s.title⟩:FrmC),(if s.onAlt then a else m).map Rwc.l):=by
 unfold U1 U9 O8
 rw [B1y,A0e,A0e]
 cases s.onAlt<;>rfl
theorem C0i (c r:Int) (hc:2≤c∧c≤80) (hr:1≤r∧r≤40):N1 c r=((⟨c,Plc.zero,true,0,[]⟩:FrmC),List.replicate r.toNat (List.replicate c.toNat (P0 Sty.zero)),0):=by
 unfold N1 O4 G6
 rw [B5s c r hc hr]
 simp only [decide_true,Bool.not_true,cond_false,C5a c hc,C1v]
 simp [ScrC.zero,Y3,Cur.zero,Plc.zero]
theorem B9k (c r:Int) (h:¬ (2≤c∧c≤80∧1≤r∧r≤40)):N1 c r=(FrmC.zero,[],2):=by
 unfold N1 O4 G6
 rw [B3k c r h];rfl
theorem B6x:A0z=true:=by decide +kernel
end Go.Proofs.YthcjfkljekdioaaGreatDoor
set_option linter.unusedVariables false
set_option linter.unusedSimpArgs false
namespace Go.Proofs.YthcjfkljekdioaaGreatDoor
open Go Go.Fen
theorem A4m (c r:Int):∀ (fu i:Nat) (f:List (List Cel)),(r - (i:Int)).toNat<fu→L6 c r fu i f=({FrmC.zero with cols:=c,visible:=true},f++List.replicate (r - (i:Int)).toNat (List.replicate c.toNat {Cel.zero with base:=32}))
 | 0,i,f,h=>by omega
 | fu+1,i,f,h=>by
  simp only [L6]
  by_cases k:(i:Int)<r
  ·rw [decide_eq_true k,cond_true,Z1 _ _ _ _ _ _ _ (by omega),A4m c r fu (i+1) _ (by omega),show (r - (i:Int)).toNat=(r - ((i+1:Nat):Int)).toNat+1 by omega,List.replicate_succ,List.append_assoc]
   simp
  ·rw [decide_eq_false k,cond_false,show (r - (i:Int)).toNat=0 by omega];simp
theorem B6j (c r:Int):U0 c r=((⟨c,Plc.zero,true,0,[]⟩:FrmC),List.replicate r.toNat (List.replicate c.toNat (P0 Sty.zero))):=by
 unfold U0
 rw [A4m _ _ _ _ _ (by omega)]
 simp;exact ⟨⟨rfl,rfl,rfl⟩,.inr (.inr rfl)⟩
theorem A7i (b:List Cel):∀ (l:List Cel) (i:Nat),l=b.drop i→K4 b l i=true
 | [],i,h=>rfl
 | a::l,i,h=>by
  have hi:i<b.length:=by
   rcases Nat.lt_or_ge i b.length with h1 | h1
   ·exact h1
   ·rw [List.drop_of_length_le h1] at h;cases h
  rw [List.drop_eq_getElem_cons hi] at h
  obtain ⟨rfl,h2⟩:=List.cons.inj h
  simp only [K4]
  rw [A7i b l (i+1) h2]
  simp [List.getD_eq_getElem?_getD,hi]
theorem B1l (a:List Cel):O9 a a=true:=by
 unfold O9;rw [A7i a a 0 rfl];simp
theorem B8o (b:List (List Cel)):∀ (l:List (List Cel)) (i:Nat),l=b.drop i→Q0 b l i=true
 | [],i,h=>rfl
 | a::l,i,h=>by
  have hi:i<b.length:=by
   rcases Nat.lt_or_ge i b.length with h1 | h1
   ·exact h1
   ·rw [List.drop_of_length_le h1] at h;cases h
  rw [List.drop_eq_getElem_cons hi] at h
  obtain ⟨rfl,h2⟩:=List.cons.inj h
  simp only [Q0]
  rw [B8o b l (i+1) h2]
  simp [List.getD_eq_getElem?_getD,hi,B1l]
theorem B3j (f:FrmC) (r:List (List Cel)):A0d f r f r=true:=by
 unfold A0d;rw [B8o r r 0 rfl];simp
theorem A9t (c r:Int):S7 c r=true:=by
 unfold S7 G6
 rw [B6x]
 by_cases h:2≤c∧c≤80∧1≤r∧r≤40
 ·rw [C0i c r ⟨h.1,h.2.1⟩ ⟨h.2.2.1,h.2.2.2⟩,B6j,decide_eq_false (by omega),decide_eq_false (by omega),decide_eq_false (by omega),decide_eq_false (by omega)]
  exact B3j _ _
 ·rw [B9k c r h]
  have:((((decide (c<2))||(decide ((80:Int)<c)))||(decide (r<1)))||(decide ((40:Int)<r)))=true:=by
   simp only [Bool.or_eq_true,decide_eq_true_eq];omega
  rw [this];rfl
end Go.Proofs.YthcjfkljekdioaaGreatDoor
