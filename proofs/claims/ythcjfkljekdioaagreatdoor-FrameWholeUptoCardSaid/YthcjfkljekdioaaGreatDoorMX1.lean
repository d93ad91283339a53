import Derived.Test.YthcjfkljekdioaaGreatDoorMB4
set_option linter.unusedVariables false
set_option linter.unusedSimpArgs false
namespace Go.Proofs.YthcjfkljekdioaaGreatDoor
open Go Go.Fen
theorem B6p {x:Cel} {l:List Cel} {n m:Nat} (h:l.take n=List.replicate n x) (hm:m≤n):l.take m=List.replicate m x:=by
 rw [← Nat.min_eq_left hm,← List.take_take,h,List.take_replicate]
theorem A8f (x:Cel) (N:Nat):∀ (fu:Nat) (l:List Cel) (n:Nat),l.length=N→1≤n→N - n<fu→l.take n=List.replicate (min n N) x→E8 fu l n=List.replicate N x
 | 0,l,n,hl,hn,hf,ht=>by omega
 | fu+1,l,n,hl,hn,hf,ht=>by
  simp only [E8]
  by_cases c:(n:Int)<(l.length:Int)
  ·rw [decide_eq_true c,cond_true]
   have hnN:n<N:=by omega
   rw [Nat.min_eq_left (by omega)] at ht
   have hlen:(l.take n++(l.take (min n (l.length - n))++l.drop (n+min n (l.length - n)))).length=N:=by
    simp only [List.length_append,List.length_take,List.length_drop];omega
   refine A8f x N fu _ _ hlen (by omega) (by omega) ?_
   have hm:=Nat.min_le_left n (l.length - n)
   have hm2:=Nat.min_le_right n (l.length - n)
   generalize min n (l.length - n)=m at hm hm2 ⊢
   rw [ht,B6p ht hm,Nat.min_eq_left (b:=N) (by omega),← List.append_assoc,List.replicate_append_replicate,List.take_append_of_le_length (by simp),List.take_of_length_le (by simp)]
  ·rw [decide_eq_false c,cond_false]
   rw [List.take_of_length_le (by omega),Nat.min_eq_right (by omega)] at ht;exact ht
theorem C0p (x:Cel) (c:Int) (hc:2≤c∧c≤80):I1 [x] c=List.replicate c.toNat x:=by
 unfold I1 F8
 rw [show ([x]:List Cel).length=1 from rfl,B9k 1 c rfl (by omega)]
 show E8 (_ - (min 1 (List.replicate ((IntKind.i64.wrap c).toNat) Cel.zero).length)+1) (List.take (List.replicate ((IntKind.i64.wrap c).toNat) Cel.zero).length [x]++List.drop 1 (List.replicate ((IntKind.i64.wrap c).toNat) Cel.zero)) (min 1 (List.replicate ((IntKind.i64.wrap c).toNat) Cel.zero).length)=_
 rw [wr6 (by omega),List.length_replicate,Nat.min_eq_left (by omega),List.take_of_length_le (by simp;omega)]
 refine A8f x c.toNat _ _ 1 (by simp;omega) (by omega) (by simp) ?_
 rw [Nat.min_eq_left (by omega)];rfl
theorem C8g:D5 Sty.zero=0:=by decide +kernel
theorem B8n (c:Int) (hc:2≤c∧c≤80):A8l c Sty.zero=(List.replicate c.toNat (K6 Sty.zero),false,0):=by
 unfold A8l
 rw [C8g,decide_eq_false (by omega),decide_eq_false (by omega)]
 simp only [Bool.or_self,decide_true,Bool.not_true,cond_false,F8];rw [C0p _ _ hc]
theorem A8b (w:Int) (hw:2≤w∧w≤80):∀ (tl l:List (Rwc Cel)) (t:Nat),l.length=t+tl.length→l.take t=List.replicate t ⟨List.replicate w.toNat (K6 Sty.zero),false⟩ →
  K7 w Sty.zero tl l t=List.replicate (t+tl.length) ⟨List.replicate w.toNat (K6 Sty.zero),false⟩
 | [],l,t,hl,ht=>by
  simp only [K7]
  rw [List.take_of_length_le (by simp at hl;omega)] at ht;exact ht
 | _::tl,l,t,hl,ht=>by
  simp only [K7,F8]
  rw [B8n w hw,A8b w hw tl _ (t+1) (by simp at hl ⊢;omega) ?_]
  ·simp [Nat.add_assoc,Nat.add_comm 1]
  ·have hlt:t<l.length:=by simp at hl;omega
   rw [List.take_add_one,List.take_set_of_le (Nat.le_refl _),ht,List.getElem?_set_self hlt,List.replicate_succ'];rfl
theorem B6c (c r:Int) (hc:2≤c∧c≤80) (hr:1≤r∧r≤40):Y7 c r Sty.zero=(List.replicate r.toNat ⟨List.replicate c.toNat (K6 Sty.zero),false⟩,0):=by
 unfold Y7
 rw [C8g,decide_eq_false (by omega),decide_eq_false (by omega),decide_eq_false (by omega),decide_eq_false (by omega)]
 simp only [Bool.or_self,decide_true,Bool.not_true,cond_false,F8]
 unfold Y0
 rw [A8b c hc _ _ 0 (by simp) rfl]
 simp
theorem B3x (c:Int):∀ (fu:Nat) (t:List Bool) (k:Nat),(X9 c fu t k).2=0
 | 0,_,_=>rfl
 | fu+1,t,k=>by
  simp only [X9]
  cases decide ((k:Int)<c) with
  | true=>exact B3x c fu _ _
  | false=>rfl
theorem C7n (c:Int) (hc:2≤c∧c≤80):(A4x c).2=0:=by
 unfold A4x
 rw [decide_eq_false (by omega),decide_eq_false (by omega)];exact B3x _ _ _ _
theorem A0l:∀ (l:List (Rwc Cel)) (t:Nat),K9 l t=l.map Rwc.l
 | [],t=>rfl
 | a::l,t=>by simp only [K9,List.map_cons,List.take_length];rw [A0l]
theorem B2i (s:ScrC):∀ (l f:List (List Cel)),K8 s l f=((⟨s.cols,(⟨s.cursor.row,s.cursor.col⟩:Plc),s.modes.visible,s.shape,s.title⟩:FrmC),f++l)
 | [],f=>by simp [K8]
 | a::l,f=>by simp only [K8];rw [B2i];simp
theorem C5h (s:ScrC) (m a:List (Rwc Cel)) (t:List Bool):V1 s m a t=((⟨s.cols,(⟨s.cursor.row,s.cursor.col⟩:Plc),s.modes.visible,s.shape,s.title⟩:FrmC),(if s.onAlt then a else m).map Rwc.l):=by
 unfold V1 V3 P9
 rw [B2i,A0l,A0l]
 cases s.onAlt<;>rfl
theorem B6d (c r:Int) (hc:2≤c∧c≤80) (hr:1≤r∧r≤40):Q7 c r=((⟨c,Plc.zero,true,0,[]⟩:FrmC),List.replicate r.toNat (List.replicate c.toNat (K6 Sty.zero)),0):=by
 unfold Q7 R0 F8
 rw [B6c c r hc hr]
 simp only [decide_true,Bool.not_true,cond_false,C7n c hc,C5h]
 simp [ScrC.zero,A0b,Cur.zero,Plc.zero]
theorem B9c:A0x=true:=by decide +kernel
end Go.Proofs.YthcjfkljekdioaaGreatDoor
set_option linter.unusedVariables false
set_option linter.unusedSimpArgs false
namespace Go.Proofs.YthcjfkljekdioaaGreatDoor
open Go Go.Fen
theorem A7t:∀ (k t:Nat) (last:Cel),last.wide=0→M8 (List.replicate k (K6 Sty.zero)) t last=0
 | 0,t,last,h=>by simp [M8,h]
 | k+1,t,last,h=>by
  rw [List.replicate_succ]
  simp only [M8]
  rw [show I0 (K6 Sty.zero)=0 by decide +kernel,h,show (K6 Sty.zero).wide=0 from rfl]
  exact A7t k (t+1) _ rfl
theorem C1j (c:Int) (hc:2≤c∧c≤80) (b:Bool):F3 (List.replicate c.toNat (K6 Sty.zero)) b=0:=by
 unfold F3
 rw [List.length_replicate,decide_eq_false (by omega),decide_eq_false (by omega)]
 exact A7t _ _ _ rfl
theorem C7t:L5 0 0 Col.zero []=0:=by decide +kernel
structure FOk (f:FrmC) (rows:List (List Cel)):Prop where
 hc:2≤f.cols∧f.cols≤80
 hr:1≤(rows.length:Int)∧(rows.length:Int)≤40
 h1:0≤f.cursor.row∧f.cursor.row<(rows.length:Int)
 h2:0≤f.cursor.col∧f.cursor.col<f.cols
 sh:0≤f.shape∧f.shape≤6
 ti:L5 0 0 Col.zero f.title=0
 ro:∀ r ∈ rows,(r.length:Int)=f.cols∧F3 r false=0
theorem A7x {f:FrmC} {rows:List (List Cel)} (h:C6 f rows=0):FOk f rows:=by
 unfold C6 at h
 obtain ⟨h1,h2⟩:=Z7 _ _ _ _ h
 simp only [Bool.and_eq_true,decide_eq_true_eq] at h1
 obtain ⟨⟨⟨⟨⟨⟨⟨⟨⟨⟨a1,a2⟩,a3⟩,a4⟩,a5⟩,a6⟩,a7⟩,a8⟩,a9⟩,a10⟩,a11⟩:=h1
 exact ⟨⟨a1,a2⟩,⟨a3,a4⟩,⟨a5,a6⟩,⟨a7,a8⟩,⟨a9,a10⟩,a11,h2⟩
theorem A7e (f:FrmC):∀ (rows:List (List Cel)) (ok:Bool) (t:Nat),H7 f rows ok t=0∨H7 f rows ok t=330
 | [],ok,t=>by cases ok<;>simp [H7]
 | r::rows,ok,t=>by
  simp only [H7]
  generalize ((ok&&decide ((r.length:Int)=f.cols))&&decide (F3 r false=0))=b
  cases b with
  | false=>right;rfl
  | true=>exact A7e f rows true (t+1)
theorem B4a {f:FrmC} {rows:List (List Cel)} (h:C6 f rows≠0):C6 f rows=330:=(A7e f rows _ 0).resolve_left h
theorem C5m (b:List Cel):∀ (l:List Cel) (i:Nat),l=b.drop i→F0 b l i=true
 | [],i,h=>rfl
 | a::l,i,h=>by
  have hi:i<b.length:=by
   rcases Nat.lt_or_ge i b.length with h1 | h1
   ·exact h1
   ·rw [List.drop_of_length_le h1] at h;cases h
  rw [List.drop_eq_getElem_cons hi] at h
  obtain ⟨rfl,h2⟩:=List.cons.inj h
  simp only [F0]
  rw [C5m b l (i+1) h2]
  simp [List.getD_eq_getElem?_getD,hi]
theorem C2n (b:List (List Cel)):∀ (l:List (List Cel)) (i:Nat),l=b.drop i→C3 b l i=true
 | [],i,h=>rfl
 | a::l,i,h=>by
  have hi:i<b.length:=by
   rcases Nat.lt_or_ge i b.length with h1 | h1
   ·exact h1
   ·rw [List.drop_of_length_le h1] at h;cases h
  rw [List.drop_eq_getElem_cons hi] at h
  obtain ⟨rfl,h2⟩:=List.cons.inj h
  simp only [C3]
  rw [C2n b l (i+1) h2]
  unfold I6
  rw [show b.getD i []=b[i] by simp [List.getD_eq_getElem?_getD,hi],C5m b[i] b[i] 0 rfl];simp
theorem C0l (f:FrmC) (r:List (List Cel)):O5 f r f r=true:=by
 unfold O5 C5
 rw [C2n r r 0 rfl];simp
end Go.Proofs.YthcjfkljekdioaaGreatDoor
set_option linter.unusedVariables false
set_option linter.unusedSimpArgs false
namespace Go.Proofs.YthcjfkljekdioaaGreatDoor
open Go Go.Fen
def Z5 (l:List Cel) (k:Nat):Bool:=(((decide ((l.getD k Cel.zero).wide=1))&&((decide (((k:Int)+1)=(l.length:Int)))||(!decide ((l.getD (k+1) Cel.zero).wide=2))))||((decide ((l.getD k Cel.zero).wide=2))&&((decide ((k:Int)=0))||(!decide ((l.getD (k - 1) Cel.zero).wide=1)))))
def A1s (l:List Cel) (k:Nat):Cel:=bif Z5 l k then {Cel.zero with base:=32,sty:=(l.getD k Cel.zero).sty} else l.getD k Cel.zero
def V4 (l:List Cel):List Cel:=(List.range l.length).map (A1s l)
theorem A1f (l:List Cel):(V4 l).length=l.length:=by simp [V4]
theorem A2j (l:List Cel) {k:Nat} (h:k<l.length):(V4 l).getD k Cel.zero=A1s l k:=by simp [V4,List.getD_eq_getElem?_getD,h]
theorem B5s {α:Type} {l tl:List α} {x d:α} {k:Nat} (h:l.drop k=x::tl):k<l.length∧l.getD k d=x∧l.drop (k+1)=tl:=by
 have hk:k<l.length:=by
  rcases Nat.lt_or_ge k l.length with h1 | h1
  ·exact h1
  ·rw [List.drop_of_length_le h1] at h;cases h
 rw [List.drop_eq_getElem_cons hk] at h
 obtain ⟨h1,h2⟩:=List.cons.inj h
 exact ⟨hk,by simp [List.getD_eq_getElem?_getD,hk,h1],h2⟩
theorem A4a (t:List (List Cel)) (i:Nat) (ag:List (List Cel)→Nat→List (List Cel)):∀ (tl own:List Cel) (k:Nat),(t.getD i []).drop k=tl→k≤(t.getD i []).length→own=(List.range k).map (A1s (t.getD i []))++tl →
  G7 t i ag tl own k=ag (t.set i (V4 (t.getD i []))) (i+1)
 | [],own,k,h,hkl,ho=>by
  have hk:(t.getD i []).length≤k:=by simpa using h
  simp only [G7]
  rw [ho,List.append_nil]
  rw [show k=(t.getD i []).length by omega];rfl
 | x::tl,own,k,h,hkl,ho=>by
  obtain ⟨hk,hx,h2⟩:=B5s (d:=Cel.zero) h
  simp only [G7]
  have e:(((decide (x.wide=1))&&((decide (((k:Int)+1)=((t.getD i []).length:Int)))||(!decide (((t.getD i []).getD (k+1) Cel.zero).wide=2))))||((decide (x.wide=2))&&((decide ((k:Int)=0))||(!decide (((t.getD i []).getD (k - 1) Cel.zero).wide=1)))))=Z5 (t.getD i []) k:=by unfold Z5;rw [hx]
  rw [e]
  have hl:((List.range k).map (A1s (t.getD i []))).length=k:=by simp
  cases ha:Z5 (t.getD i []) k with
  | true =>
   rw [cond_true]
   refine A4a t i ag tl _ (k+1) h2 (by omega) ?_
   rw [ho,List.set_append,if_neg (by rw [hl];omega),hl,Nat.sub_self,List.set_cons_zero,List.range_succ,List.map_append,List.map_singleton,List.append_assoc]
   congr 1
   unfold A1s;rw [ha,hx];rfl
  | false =>
   rw [cond_false]
   refine A4a t i ag tl _ (k+1) h2 (by omega) ?_
   rw [ho,List.range_succ,List.map_append,List.map_singleton,List.append_assoc]
   congr 1
   unfold A1s;rw [ha,hx];rfl
theorem A8k:∀ (tl t:List (List Cel)) (i:Nat),t.length=i+tl.length→G6 tl t i=t.take i++(t.drop i).map V4
 | [],t,i,h=>by simp only [G6];rw [List.take_of_length_le (by simp at h;omega),List.drop_of_length_le (by simp at h;omega)];simp
 | _::tl,t,i,h=>by
  have hi:i<t.length:=by simp at h;omega
  simp only [G6,F8,P5]
  rw [A4a t i _ (t.getD i []) (t.getD i []) 0 rfl (Nat.zero_le _) rfl,A8k tl _ (i+1) (by simp at h ⊢;omega),List.take_add_one,List.take_set_of_le (Nat.le_refl _),List.getElem?_set_self hi,List.drop_set_of_lt (by omega),List.drop_eq_getElem_cons hi]
  have:t.getD i []=t[i]:=by simp [List.getD_eq_getElem?_getD,hi]
  rw [this];simp only [Option.toList_some,List.map_cons,List.append_assoc,List.singleton_append]
theorem B4e (c:FrmC) (rows:List (List Cel)):J6 c rows=rows.map V4:=by
 unfold J6;rw [A8k rows rows 0 (by simp)];simp
def prv (l:List Cel) (last:Cel) (k:Nat):Cel:=if k=0 then last else l.getD (k - 1) Cel.zero
def B2z (l:List Cel) (last:Cel) (k:Nat):Prop:=I0 (l.getD k Cel.zero)=0∧((prv l last k).wide=1 ↔ (l.getD k Cel.zero).wide=2)∧((l.getD k Cel.zero).wide=2→(l.getD k Cel.zero).sty=(prv l last k).sty)
theorem B1j (x:Cel) (l:List Cel) (last:Cel) (k:Nat):prv (x::l) last (k+1)=prv l x k:=by
 unfold prv
 rw [if_neg (by omega)]
 cases k with
 | zero=>rfl
 | succ k=>rw [if_neg (by omega)];rfl
theorem B2n:∀ (l:List Cel) (t:Nat) (last:Cel),M8 l t last=0 ↔ (∀ k,k<l.length→B2z l last k)∧(prv l last l.length).wide≠1
 | [],t,last=>by
  simp only [M8,List.length_nil,prv,if_true]
  by_cases h:last.wide=1<;>simp [h]
 | x::l,t,last=>by
  simp only [M8]
  have ih:=B2n l (t+1) x
  have hk:(∀ k,k<(x::l).length→B2z (x::l) last k) ↔ B2z (x::l) last 0∧∀ k,k<l.length→B2z l x k:=by
   constructor
   ·intro h
    refine ⟨h 0 (by simp),fun k hk=>?_⟩
    have:=h (k+1) (by simpa using hk)
    unfold B2z at this ⊢
    rw [B1j] at this;exact this
   ·intro ⟨h0,h⟩ k hk
    cases k with
    | zero=>exact h0
    | succ k =>
     have:=h k (by simpa using hk)
     unfold B2z at this ⊢
     rw [B1j];exact this
  rw [hk,List.length_cons,B1j]
  have h0:B2z (x::l) last 0 ↔ I0 x=0∧(last.wide=1 ↔ x.wide=2)∧(x.wide=2→x.sty=last.sty):=Iff.rfl
  rw [h0]
  by_cases c1:I0 x=0
  ·by_cases c2:(last.wide=1 ↔ x.wide=2)
   ·by_cases c3:x.wide=2→x.sty=last.sty
    ·rw [and_assoc,← ih]
     have e2:((decide (last.wide=1)) == (decide (x.wide=2)))=true:=by simp [c2]
     have e3:((decide (x.wide=2))&&(!(decide (x.sty=last.sty))))=false:=by
      by_cases q:x.wide=2
      ·simp [q,c3 q]
      ·simp [q]
     rw [e2,e3,decide_eq_true c1]
     simp only [Bool.not_true,Bool.or_self,cond_false]
     exact ⟨fun h=>⟨⟨c1,c2,c3⟩,h⟩,fun h=>h.2⟩
    ·have e3:((decide (x.wide=2))&&(!(decide (x.sty=last.sty))))=true:=by
      rw [Classical.not_imp] at c3;simp [c3.1,c3.2]
     rw [e3,Bool.or_true]
     exact ⟨fun h=>(by cases h),fun h=>absurd h.1.1.2.2 c3⟩
   ·have e2:((decide (last.wide=1)) == (decide (x.wide=2)))=false:=by
     by_cases q:last.wide=1<;>by_cases p:x.wide=2<;>simp_all
    rw [e2]
    simp only [Bool.not_false,Bool.or_true,Bool.true_or,cond_true]
    exact ⟨fun h=>(by cases h),fun h=>absurd h.1.1.2.1 c2⟩
  ·rw [decide_eq_false c1]
   simp only [Bool.not_false,Bool.true_or,cond_true]
   exact ⟨fun h=>(by cases h),fun h=>absurd h.1.1.1 c1⟩
theorem B0t (l:List Cel) (b:Bool):F3 l b=0 ↔ (2≤l.length∧l.length≤80)∧(∀ k,k<l.length→B2z l Cel.zero k)∧(prv l Cel.zero l.length).wide≠1:=by
 unfold F3
 by_cases h:2≤l.length∧l.length≤80
 ·rw [decide_eq_false (by omega),decide_eq_false (by omega)]
  exact (B2n l 0 Cel.zero).trans ⟨fun k=>⟨h,k⟩,fun k=>k.2⟩
 ·have:((decide ((l.length:Int)<2))||(decide ((80:Int)<(l.length:Int))))=true:=by simp only [Bool.or_eq_true,decide_eq_true_eq];omega
  rw [this]
  exact ⟨fun h=>(by cases h),fun k=>absurd k.1 h⟩
def A4r (l:List Cel):Prop:=(∀ k,k<l.length→I0 (l.getD k Cel.zero)=0)∧∀ k,k+1<l.length→(l.getD k Cel.zero).wide=1→(l.getD (k+1) Cel.zero).wide=2→(l.getD (k+1) Cel.zero).sty=(l.getD k Cel.zero).sty
theorem C5n {x:Cel} (h:I0 x=0):(x.wide=0∨x.wide=1∨x.wide=2)∧D5 x.sty=0:=by
 unfold I0 at h
 by_cases hs:D5 x.sty=0
 ·refine ⟨?_,hs⟩
  rw [decide_eq_true hs] at h
  cases hh:A1h x with
  | true =>
   unfold A1h at hh
   have:=of_decide_eq_true hh
   rw [this];exact .inr (.inr rfl)
  | false =>
   rw [hh] at h
   by_cases c1:0≤x.wide
   ·by_cases c2:x.wide≤1
    ·omega
    ·rw [decide_eq_false c2] at h;simp at h
   ·rw [decide_eq_false c1] at h;simp at h
 ·rw [decide_eq_false hs] at h;simp at h
theorem B8z {s:Sty} (h:D5 s=0):I0 {Cel.zero with base:=32,sty:=s}=0:=by
 unfold I0
 rw [show D5 ({Cel.zero with base:=32,sty:=s}:Cel).sty=0 from h,show F2 ({Cel.zero with base:=32,sty:=s}:Cel).base=1 from (by decide +kernel:F2 32=1),show P2 ({Cel.zero with base:=32,sty:=s}:Cel).marks=true from (by decide +kernel:P2 Cel.zero.marks=true)]
 simp [Cel.zero,IntKind.wrap,IntKind.bits,IntKind.signed]
theorem A8m (l:List Cel) (k:Nat):(A1s l k).wide=if Z5 l k then 0 else (l.getD k Cel.zero).wide:=by
 unfold A1s;cases Z5 l k<;>rfl
theorem C2j {l:List Cel} (hl:2≤l.length∧l.length≤80) (hg:A4r l) (b:Bool):F3 (V4 l) b=0:=by
 have hw:=fun k hk=>(C5n (hg.1 k hk)).1
 have p1:∀ k,k<l.length→((A1s l k).wide=1 ↔ (l.getD k Cel.zero).wide=1∧k+1<l.length∧(l.getD (k+1) Cel.zero).wide=2):=fun k hk=>by
  rw [A8m]
  have hc:((k:Int)+1=(l.length:Int)) ↔ k+1=l.length:=by omega
  have hd:k+1<l.length ↔ ¬ k+1=l.length:=by omega
  unfold Z5
  rw [hd]
  generalize (l.getD k Cel.zero).wide=a
  generalize (l.getD (k+1) Cel.zero).wide=c
  generalize (l.getD (k - 1) Cel.zero).wide=d
  by_cases a1:a=1
  ·subst a1
   by_cases a2:k+1=l.length<;>by_cases a3:c=2<;>simp [hc,a2,a3]
  ·simp only [a1,decide_false,Bool.false_and,Bool.false_or,false_and,iff_false]
   split
   ·decide
   ·exact a1
 have p2:∀ k,k<l.length→((A1s l k).wide=2 ↔ (l.getD k Cel.zero).wide=2∧k≠0∧(l.getD (k - 1) Cel.zero).wide=1):=fun k hk=>by
  rw [A8m]
  have hc:((k:Int)=0) ↔ k=0:=by omega
  unfold Z5
  generalize (l.getD k Cel.zero).wide=a
  generalize (l.getD (k+1) Cel.zero).wide=c
  generalize (l.getD (k - 1) Cel.zero).wide=d
  by_cases a1:a=2
  ·subst a1
   by_cases a2:k=0<;>by_cases a3:d=1<;>simp [hc,a2,a3]
  ·simp only [a1,decide_false,Bool.false_and,Bool.or_false,false_and,iff_false]
   split
   ·decide
   ·exact a1
 have p3:∀ k,k<l.length→(A1s l k).wide=1∨(A1s l k).wide=2→A1s l k=l.getD k Cel.zero:=fun k hk h=>by
  rw [A8m] at h
  unfold A1s
  cases ha:Z5 l k with
  | true=>rw [ha] at h;simp at h
  | false=>rfl
 have pp:∀ k,k<l.length→k≠0→prv (V4 l) Cel.zero k=A1s l (k - 1):=fun k hk h0=>by
  unfold prv;rw [if_neg h0,A2j l (by omega)]
 refine (B0t _ b).2 ⟨by rw [A1f];exact hl,fun k hk=>?_,?_⟩
 ·rw [A1f] at hk
  unfold B2z
  rw [A2j l hk]
  refine ⟨?_,?_,fun h2=>?_⟩
  ·unfold A1s
   cases Z5 l k with
   | true=>exact B8z (C5n (hg.1 k hk)).2
   | false=>exact hg.1 k hk
  ·by_cases h0:k=0
   ·subst h0
    rw [show prv (V4 l) Cel.zero 0=Cel.zero from rfl,p2 0 hk]
    simp [Cel.zero]
   ·rw [pp k hk h0,p1 (k - 1) (by omega),p2 k hk,show k - 1+1=k by omega]
    exact ⟨fun h=>⟨h.2.2,h0,h.1⟩,fun h=>⟨h.2.2,hk,h.1⟩⟩
  ·obtain ⟨q1,q2,q3⟩:=(p2 k hk).1 h2
   rw [pp k hk q2,p3 k hk (.inr h2),p3 (k - 1) (by omega) (.inl ((p1 (k - 1) (by omega)).2 ⟨q3,by omega,by rw [show k - 1+1=k by omega];exact q1⟩))]
   have:=hg.2 (k - 1) (by omega) q3 (by rw [show k - 1+1=k by omega];exact q1)
   rw [show k - 1+1=k by omega] at this;exact this
 ·rw [A1f]
  unfold prv
  rw [if_neg (by omega),A2j l (by omega)]
  intro h
  obtain ⟨_,h2,_⟩:=(p1 _ (by omega)).1 h
  omega
theorem B5v {l:List Cel} {b:Bool} (h:F3 l b=0):A4r l:=by
 obtain ⟨hl,hk,he⟩:=(B0t l b).1 h
 refine ⟨fun k h=>(hk k h).1,fun k h h1 h2=>?_⟩
 have:=(hk (k+1) h).2.2 h2
 rw [this];unfold prv;rw [if_neg (by omega)];rfl
theorem C3r {l:List Cel} {b:Bool} (h:F3 l b=0):V4 l=l:=by
 obtain ⟨hl,hk,he⟩:=(B0t l b).1 h
 apply List.ext_getElem? 
 intro k
 by_cases hl':k<l.length
 ·have e1:(V4 l)[k]?=some (A1s l k):=by simp [V4,hl']
  have e2:l[k]?=some (l.getD k Cel.zero):=by simp [List.getD_eq_getElem?_getD,hl']
  rw [e1,e2]
  congr 1
  have ha:Z5 l k=false:=by
   unfold Z5
   have o1:=hk k hl'
   unfold B2z at o1
   have n1:(l.getD k Cel.zero).wide=1→k+1<l.length∧(l.getD (k+1) Cel.zero).wide=2:=fun h1=>by
    have hlt:k+1<l.length:=by
     rcases Nat.lt_or_ge (k+1) l.length with q | q
     ·exact q
     ·exfalso;apply he;unfold prv;rw [if_neg (by omega),show l.length - 1=k by omega];exact h1
    refine ⟨hlt,((hk (k+1) hlt).2.1).1 ?_⟩
    unfold prv;rw [if_neg (by omega)];exact h1
   have n2:(l.getD k Cel.zero).wide=2→k≠0∧(l.getD (k - 1) Cel.zero).wide=1:=fun h2=>by
    have:=o1.2.1.2 h2
    unfold prv at this
    split at this
    ·simp [Cel.zero] at this
    ·exact ⟨by assumption,this⟩
   rw [Bool.or_eq_false_iff,Bool.and_eq_false_iff,Bool.and_eq_false_iff]
   constructor
   ·by_cases q:(l.getD k Cel.zero).wide=1
    ·obtain ⟨a,c⟩:=n1 q
     right;rw [decide_eq_false (by omega),decide_eq_true c];rfl
    ·left;exact decide_eq_false q
   ·by_cases q:(l.getD k Cel.zero).wide=2
    ·obtain ⟨a,c⟩:=n2 q
     right;rw [decide_eq_false (by omega),decide_eq_true c];rfl
    ·left;exact decide_eq_false q
  unfold A1s;rw [ha];rfl
 ·rw [List.getElem?_eq_none (by rw [A1f];omega),List.getElem?_eq_none (by omega)]
end Go.Proofs.YthcjfkljekdioaaGreatDoor
set_option linter.unusedVariables false
set_option linter.unusedSimpArgs false
namespace Go.Proofs.YthcjfkljekdioaaGreatDoor
open Go Go.Fen
theorem B7y {α:Type} {a b:List α} {d:α} {k:Nat} (h:k<a.length):(a++b).getD k d=a.getD k d:=by
 simp only [List.getD_eq_getElem?_getD,List.getElem?_append_left h]
theorem C3t {α:Type} {a b:List α} {d:α} {k:Nat}:(a++b).getD (a.length+k) d=b.getD k d:=by
 simp only [List.getD_eq_getElem?_getD];rw [List.getElem?_append_right (by omega),Nat.add_sub_cancel_left]
theorem B9x {α:Type} {a b:List α} {d:α} {k:Nat} (h:a.length≤k):(a++b).getD k d=b.getD (k - a.length) d:=by
 simp only [List.getD_eq_getElem?_getD];rw [List.getElem?_append_right h]
theorem gt {α:Type} {a:List α} {d:α} {k n:Nat} (h:k<n):(a.take n).getD k d=a.getD k d:=by
 simp only [List.getD_eq_getElem?_getD,List.getElem?_take_of_lt h]
theorem gdr {α:Type} {a:List α} {d:α} {k n:Nat}:(a.drop n).getD k d=a.getD (n+k) d:=by
 simp only [List.getD_eq_getElem?_getD,List.getElem?_drop]
theorem B3t {l:List Cel} (h:A4r l) (n:Nat):A4r (l.take n):=by
 refine ⟨fun k hk=>?_,fun k hk h1 h2=>?_⟩
 ·rw [List.length_take] at hk;rw [gt (by omega)];exact h.1 k (by omega)
 ·rw [List.length_take] at hk;rw [gt (by omega)] at h1 h2;rw [gt (by omega),gt (by omega)];exact h.2 k (by omega) h1 h2
theorem B4c {l:List Cel} (h:A4r l) (n:Nat):A4r (l.drop n):=by
 refine ⟨fun k hk=>?_,fun k hk h1 h2=>?_⟩
 ·rw [List.length_drop] at hk;rw [gdr];exact h.1 _ (by omega)
 ·rw [List.length_drop] at hk;rw [gdr] at h1 h2;rw [gdr,gdr,← Nat.add_assoc];exact h.2 _ (by omega) h1 (by rw [Nat.add_assoc];exact h2)
structure Pairs (b:List Cel):Prop where
 one:∀ k,k<b.length→(b.getD k Cel.zero).wide=1→k+1<b.length∧(b.getD (k+1) Cel.zero).wide=2
 two:∀ k,k<b.length→(b.getD k Cel.zero).wide=2→k≠0∧(b.getD (k - 1) Cel.zero).wide=1
theorem A3i {l:List Cel} {b:Bool} (h:F3 l b=0):Pairs l:=by
 obtain ⟨hl,hk,he⟩:=(B0t l b).1 h
 refine ⟨fun k h h1=>?_,fun k h h2=>?_⟩
 ·have hlt:k+1<l.length:=by
   rcases Nat.lt_or_ge (k+1) l.length with q | q
   ·exact q
   ·exfalso;apply he;unfold prv;rw [if_neg (by omega),show l.length - 1=k by omega];exact h1
  refine ⟨hlt,((hk (k+1) hlt).2.1).1 ?_⟩
  unfold prv;rw [if_neg (by omega)];exact h1
 ·have:=(hk k h).2.1.2 h2
  unfold prv at this
  split at this
  ·simp [Cel.zero] at this
  ·exact ⟨by assumption,this⟩
theorem B6u {a b:List Cel} (ha:A4r a) (hb:A4r b) (h:0<a.length→0<b.length→(a.getD (a.length - 1) Cel.zero).wide=1→(b.getD 0 Cel.zero).wide=2→False):A4r (a++b):=by
 refine ⟨fun k hk=>?_,fun k hk h1 h2=>?_⟩
 ·rw [List.length_append] at hk
  by_cases c:k<a.length
  ·rw [B7y c];exact ha.1 k c
  ·rw [B9x (by omega)];exact hb.1 _ (by omega)
 ·rw [List.length_append] at hk
  by_cases c:k+1<a.length
  ·rw [B7y c] at h2 ⊢;rw [B7y (show k<a.length by omega)] at h1 ⊢;exact ha.2 k c h1 h2
  ·by_cases c2:k<a.length
   ·rw [B7y c2] at h1
    rw [B9x (show a.length≤k+1 by omega),show k+1 - a.length=0 by omega] at h2
    exact (h (by omega) (by omega) (by rw [show a.length - 1=k by omega];exact h1) h2).elim
   ·rw [B9x (show a.length≤k by omega)] at h1 ⊢
    rw [B9x (show a.length≤k+1 by omega),show k+1 - a.length=k - a.length+1 by omega] at h2 ⊢
    exact hb.2 _ (by omega) h1 h2
theorem B8d {a b:List Cel} (ha:A4r a) (hb:A4r b) (hp:Pairs b):A4r (a++b):=B6u ha hb fun _ h0 _ h2=>(hp.two 0 h0 h2).1 rfl
theorem C0y {a b c:List Cel} (ha:A4r a) (hb:A4r b) (hc:A4r c) (hp:Pairs b) (h0:0<b.length):A4r (a++b++c):=by
 refine B6u (B8d ha hb hp) hc fun _ _ h1 _=>?_
 rw [List.length_append,show a.length+b.length - 1=a.length+(b.length - 1) by omega,C3t] at h1
 have:=(hp.one _ (show b.length - 1<b.length by omega) h1).1;omega
theorem B5e {a b c:List Cel} (hp:Pairs b) {k:Nat} (hk:k<b.length):A1s (a++b++c) (a.length+k)=b.getD k Cel.zero:=by
 have e0:(a++b++c).getD (a.length+k) Cel.zero=b.getD k Cel.zero:=by rw [List.append_assoc,C3t,B7y hk]
 have ha:Z5 (a++b++c) (a.length+k)=false:=by
  unfold Z5
  rw [e0,Bool.or_eq_false_iff,Bool.and_eq_false_iff,Bool.and_eq_false_iff]
  constructor
  ·by_cases q:(b.getD k Cel.zero).wide=1
   ·obtain ⟨h1,h2⟩:=hp.one k hk q
    right
    rw [show a.length+k+1=a.length+(k+1) by omega,List.append_assoc a b c,C3t,B7y h1,decide_eq_true h2,decide_eq_false (by simp only [List.length_append];omega)];rfl
   ·left;exact decide_eq_false q
  ·by_cases q:(b.getD k Cel.zero).wide=2
   ·obtain ⟨h1,h2⟩:=hp.two k hk q
    right
    rw [show a.length+k - 1=a.length+(k - 1) by omega,List.append_assoc a b c,C3t,B7y (show k - 1<b.length by omega),decide_eq_true h2,decide_eq_false (by omega)];rfl
   ·left;exact decide_eq_false q
 unfold A1s;rw [ha,e0];rfl
theorem C3e {a b:List Cel} (hl:a.length=b.length) (h:∀ k,k<b.length→a.getD k Cel.zero=b.getD k Cel.zero):a=b:=by
 apply List.ext_getElem hl
 intro k h1 h2
 have:=h k h2
 simpa [List.getD_eq_getElem?_getD,h1,h2] using this
theorem B9n {a b c:List Cel} (hp:Pairs b):((V4 (a++b++c)).drop a.length).take b.length=b:=by
 refine C3e (by rw [List.length_take,List.length_drop,A1f];simp only [List.length_append];omega) fun k hk=>?_
 rw [gt hk,gdr,A2j _ (by simp only [List.length_append];omega),B5e hp hk]
theorem A9o (f:FrmC):∀ (rows:List (List Cel)) (t:Nat),(∀ r ∈ rows,(r.length:Int)=f.cols∧F3 r false=0)→H7 f rows true t=0
 | [],t,h=>rfl
 | r::rows,t,h=>by
  obtain ⟨h1,h2⟩:=h r (List.mem_cons_self ..)
  simp only [H7]
  rw [decide_eq_true h1,h2]
  exact A9o f rows (t+1) fun x hx=>h x (List.mem_cons_of_mem _ hx)
theorem B0w {f:FrmC} {rows:List (List Cel)} (h:FOk f rows):C6 f rows=0:=by
 unfold C6
 rw [decide_eq_true h.hc.1,decide_eq_true h.hc.2,decide_eq_true h.hr.1,decide_eq_true h.hr.2,decide_eq_true h.h1.1,decide_eq_true h.h1.2,decide_eq_true h.h2.1,decide_eq_true h.h2.2,decide_eq_true h.sh.1,decide_eq_true h.sh.2,decide_eq_true h.ti]
 exact A9o f rows 0 h.ro
theorem FOk.row {f:FrmC} {rows:List (List Cel)} (h:FOk f rows) {i:Nat} (hi:i<rows.length):((rows.getD i []).length:Int)=f.cols∧F3 (rows.getD i []) false=0:=by
 have:rows.getD i []=rows[i]:=by simp [List.getD_eq_getElem?_getD,hi]
 rw [this];exact h.ro _ (List.getElem_mem hi)
theorem C0g {f:FrmC} {rows:List (List Cel)} {r c n m:Int} (h:0≤r∧1≤n∧r+n≤rows.length∧0≤c∧2≤m∧c+m≤f.cols):M4 f rows r c n m=true:=by
 unfold M4;simp only [Bool.and_eq_true,decide_eq_true_eq];omega
def O1 (rows:List (List Cel)) (r c m:Int) (i:Nat):List Cel:=((rows.getD (r.toNat+i) []).drop c.toNat).take m.toNat
def U6 (fr gr:List (List Cel)) (p:Plc) (m:Int) (i:Nat):List Cel :=
 if p.row≤i∧(i:Int)<p.row+gr.length then ((fr.getD i []).take p.col.toNat)++(gr.getD (i - p.row.toNat) [])++((fr.getD i []).drop (p.col.toNat+m.toNat)) else fr.getD i []
theorem C1e {f:FrmC} {rows:List (List Cel)} {r c n m:Int} (h:FOk f rows) (hl:0≤r∧1≤n∧r+n≤rows.length∧0≤c∧2≤m∧c+m≤f.cols) :
  J6 ({f with cols:=m}) (J7 n f rows r c n m)=(List.range n.toNat).map (fun i=>V4 (O1 rows r c m i)):=by
 rw [B4e,Z8,List.map_map]
 refine List.map_congr_left fun i hi=>?_
 rw [List.mem_range] at hi
 simp only [Function.comp_apply]
 unfold Q4 O1
 rw [show ((i:Nat):Int).toNat=i by omega,Nat.add_sub_cancel_left]
theorem B9j {f:FrmC} {rows:List (List Cel)} {r c n m:Int} (h:FOk f rows) (hl:0≤r∧1≤n∧r+n≤rows.length∧0≤c∧2≤m∧c+m≤f.cols) :
  M5 f rows r c n m=(if r≤f.cursor.row∧f.cursor.row<r+n∧c≤f.cursor.col∧f.cursor.col<c+m then {f with cols:=m,cursor:=⟨f.cursor.row - r,f.cursor.col - c⟩} else {f with cols:=m,cursor:=Plc.zero,visible:=false},(List.range n.toNat).map (fun i=>V4 (O1 rows r c m i)),0):=by
 have hr:=h.hr
 have hc:=h.hc
 have h1:=h.h1
 have h2:=h.h2
 unfold M5 F8
 rw [B0w h,C0g hl]
 simp only [decide_true,Bool.not_true,cond_false]
 rw [C1e h hl,wr6 (show -1000000≤f.cursor.row - r∧f.cursor.row - r≤1000000 by omega),wr6 (show -1000000≤f.cursor.col - c∧f.cursor.col - c≤1000000 by omega)]
 by_cases q:r≤f.cursor.row∧f.cursor.row<r+n∧c≤f.cursor.col∧f.cursor.col<c+m
 ·rw [if_pos q,decide_eq_true (by omega),decide_eq_true (by omega),decide_eq_true (by omega),decide_eq_true (by omega)];rfl
 ·rw [if_neg q]
  have:((((decide ((0:Int)≤f.cursor.row - r))&&(decide (f.cursor.row - r<n)))&&(decide ((0:Int)≤f.cursor.col - c)))&&(decide (f.cursor.col - c<m)))=false:=by
   rw [← Bool.not_eq_true];simp only [Bool.and_eq_true,decide_eq_true_eq];omega
  rw [this];rfl
theorem C3n {f:FrmC} {fr:List (List Cel)} {g:FrmC} {gr:List (List Cel)} {p:Plc} (hf:FOk f fr) (hg:FOk g gr) (hl:0≤p.row∧p.row+gr.length≤fr.length∧0≤p.col∧p.col+g.cols≤f.cols) :
  J6 f (J0 fr.length p g gr f fr)=(List.range fr.length).map (fun i=>V4 (U6 fr gr p g.cols i)):=by
 rw [B4e,Y1,List.map_map,show ((fr.length:Nat):Int).toNat=fr.length by omega]
 refine List.map_congr_left fun i hi=>?_
 rw [List.mem_range] at hi
 simp only [Function.comp_apply]
 unfold R9 U6 F8
 rw [show ((i:Nat):Int).toNat=i by omega]
 by_cases q:p.row≤i∧(i:Int)<p.row+gr.length
 ·rw [if_pos q,decide_eq_false (by omega),decide_eq_false (by omega)]
  simp only [Bool.or_self,cond_false,L7,List.flatten_cons,List.flatten_nil,List.append_nil,List.append_assoc]
 ·rw [if_neg q]
  have:((decide (((i:Int) - p.row)<0))||(decide ((gr.length:Int)≤((i:Int) - p.row))))=true:=by
   simp only [Bool.or_eq_true,decide_eq_true_eq];omega
  rw [this];rfl
theorem B4g {f:FrmC} {fr:List (List Cel)} {g:FrmC} {gr:List (List Cel)} {p:Plc} (hf:FOk f fr) (hg:FOk g gr) (hl:0≤p.row∧p.row+gr.length≤fr.length∧0≤p.col∧p.col+g.cols≤f.cols) :
  P0 f fr g gr p=(f,(List.range fr.length).map (fun i=>V4 (U6 fr gr p g.cols i)),0):=by
 unfold P0 F8
 have h1:=hg.hr
 have h2:=hg.hc
 rw [B0w hf,B0w hg,C0g (f:=f) (rows:=fr) ⟨hl.1,h1.1,hl.2.1,hl.2.2.1,h2.1,hl.2.2.2⟩]
 simp only [decide_true,Bool.not_true,cond_false]
 rw [C3n hf hg hl]
theorem C4m {f:FrmC} {fr:List (List Cel)} {g:FrmC} {gr:List (List Cel)} {p:Plc} (h:¬ (C6 f fr=0∧C6 g gr=0∧M4 f fr p.row p.col gr.length g.cols=true)):(P0 f fr g gr p).2.2=330∨(P0 f fr g gr p).2.2=2:=by
 unfold P0
 by_cases c1:C6 f fr=0
 ·by_cases c2:C6 g gr=0
  ·have c3:M4 f fr p.row p.col gr.length g.cols=false:=by
    cases q:M4 f fr p.row p.col gr.length g.cols with
    | false=>rfl
    | true=>exact absurd ⟨c1,c2,q⟩ h
   rw [c1,c2,c3];right;rfl
  ·left;rw [c1,B4a c2];rfl
 ·left;rw [B4a c1];rfl
theorem B8g {f:FrmC} {fr:List (List Cel)} {g:FrmC} {gr:List (List Cel)} {p:Plc} (hf:FOk f fr) (hg:FOk g gr) (hl:0≤p.row∧p.row+gr.length≤fr.length∧0≤p.col∧p.col+g.cols≤f.cols) {i:Nat} (hi:i<fr.length):((U6 fr gr p g.cols i).length:Int)=f.cols:=by
 have h1:=(hf.row hi).1
 have hc:=hg.hc
 unfold U6
 split
 ·have h2:=(hg.row (i:=i - p.row.toNat) (by omega)).1
  simp only [List.length_append,List.length_take,List.length_drop];omega
 ·exact h1
theorem B6b {f:FrmC} {fr:List (List Cel)} {g:FrmC} {gr:List (List Cel)} {p:Plc} (hf:FOk f fr) (hg:FOk g gr) (hl:0≤p.row∧p.row+gr.length≤fr.length∧0≤p.col∧p.col+g.cols≤f.cols) {i:Nat} (hi:i<fr.length):A4r (U6 fr gr p g.cols i):=by
 have h1:=B5v (hf.row hi).2
 have hc:=hg.hc
 unfold U6
 split
 ·have h2:=hg.row (i:=i - p.row.toNat) (by omega)
  exact C0y (B3t h1 _) (B5v h2.2) (B4c h1 _) (A3i h2.2) (by omega)
 ·exact h1
theorem C2s {f:FrmC} {fr:List (List Cel)} {g:FrmC} {gr:List (List Cel)} {p:Plc} (hf:FOk f fr) (hg:FOk g gr) (hl:0≤p.row∧p.row+gr.length≤fr.length∧0≤p.col∧p.col+g.cols≤f.cols) :
  FOk f ((List.range fr.length).map (fun i=>V4 (U6 fr gr p g.cols i))):=by
 have hc:=hf.hc
 refine ⟨hf.hc,by simpa using hf.hr,by simpa using hf.h1,hf.h2,hf.sh,hf.ti,fun r hr=>?_⟩
 obtain ⟨i,hi,rfl⟩:=List.mem_map.1 hr
 rw [List.mem_range] at hi
 have h1:=B8g hf hg hl hi
 exact ⟨by rw [A1f];exact h1,C2j (by omega) (B6b hf hg hl hi) _⟩
theorem A3k {α:Type} (fn:Nat→List α) {n i:Nat} (h:i<n):((List.range n).map fn).getD i []=fn i:=by
 simp [List.getD_eq_getElem?_getD,h]
theorem A6i {α:Type} (l:List (List α)):(List.range l.length).map (fun i=>l.getD i [])=l:=by
 apply List.ext_getElem (by simp)
 intro k h1 h2
 simp [List.getD_eq_getElem?_getD,h2]
theorem C3s {f:FrmC} {fr:List (List Cel)} {g:FrmC} {gr:List (List Cel)} {p:Plc} (hf:FOk f fr) (hg:FOk g gr) (hl:0≤p.row∧p.row+gr.length≤fr.length∧0≤p.col∧p.col+g.cols≤f.cols) :
  (List.range gr.length).map (fun i=>V4 (O1 ((List.range fr.length).map (fun i=>V4 (U6 fr gr p g.cols i))) p.row p.col g.cols i))=gr:=by
 refine Eq.trans (List.map_congr_left fun i hi=>?_) (A6i gr)
 rw [List.mem_range] at hi
 obtain ⟨h1,h2⟩:=hg.row hi
 have hfr:=(hf.row (i:=p.row.toNat+i) (by omega)).1
 have hc:=hg.hc
 have e:O1 ((List.range fr.length).map (fun i=>V4 (U6 fr gr p g.cols i))) p.row p.col g.cols i=gr.getD i []:=by
  unfold O1
  rw [A3k _ (by omega)]
  unfold U6
  rw [if_pos (by omega),show p.row.toNat+i - p.row.toNat=i by omega]
  have:=B9n (a:=(fr.getD (p.row.toNat+i) []).take p.col.toNat) (c:=(fr.getD (p.row.toNat+i) []).drop (p.col.toNat+g.cols.toNat)) (A3i h2)
  rw [List.length_take,Nat.min_eq_left (by omega),show (gr.getD i []).length=g.cols.toNat by omega] at this
  exact this
 rw [e];exact C3r h2
theorem B1k {f:FrmC} {fr:List (List Cel)} {g:FrmC} {gr:List (List Cel)} {p:Plc} {R:FrmC×List (List Cel)×Int} (hR:P0 f fr g gr p=R) (h:R.2.2=0) :
  (fr.length≤40∧gr.length≤40∧f.cols≤80∧g.cols≤80∧0≤p.row∧p.row+gr.length≤fr.length∧0≤p.col∧p.col+g.cols≤f.cols∧2≤g.cols)∧(∀ i,i<fr.length→((fr.getD i []).length:Int)=f.cols)∧(∀ i,i<gr.length→((gr.getD i []).length:Int)=g.cols) ∧
  R.2.1.length=fr.length∧(∀ i,i<fr.length→((R.2.1.getD i []).length:Int)=f.cols)∧(M5 R.1 R.2.1 p.row p.col gr.length g.cols).2.1=gr∧R.1=f:=by
 by_cases hq:C6 f fr=0∧C6 g gr=0∧M4 f fr p.row p.col gr.length g.cols=true
 ·obtain ⟨c1,c2,c3⟩:=hq
  have hf:=A7x c1
  have hg:=A7x c2
  obtain ⟨l1,l2,l3,l4,l5,l6⟩:=B4s c3
  have hl:0≤p.row∧p.row+gr.length≤fr.length∧0≤p.col∧p.col+g.cols≤f.cols:=⟨l1,l3,l4,l6⟩
  have hlen:((List.range fr.length).map (fun i=>V4 (U6 fr gr p g.cols i))).length=fr.length:=by simp
  have a1:=hf.hr
  have a2:=hf.hc
  have a3:=hg.hr
  have a4:=hg.hc
  have hP:=C2s hf hg hl
  rw [B4g hf hg hl] at hR
  subst hR
  refine ⟨⟨by omega,by omega,a2.2,a4.2,l1,l3,l4,l6,l5⟩,fun i hi=>(hf.row hi).1,fun i hi=>(hg.row hi).1,hlen,fun i hi=>(hP.row (by rw [hlen];exact hi)).1,?_,rfl⟩
  show (M5 f ((List.range fr.length).map (fun i=>V4 (U6 fr gr p g.cols i))) p.row p.col gr.length g.cols).2.1=gr
  rw [B9j hP (by rw [hlen];exact ⟨l1,l2,l3,l4,l5,l6⟩),show ((gr.length:Nat):Int).toNat=gr.length by omega,C3s hf hg hl]
 ·have:=C4m hq
  rw [hR] at this;omega
end Go.Proofs.YthcjfkljekdioaaGreatDoor
set_option linter.unusedVariables false
set_option linter.unusedSimpArgs false
namespace Go.Proofs.YthcjfkljekdioaaGreatDoor
open Go Go.Fen
theorem wru {x:Int} (h:0≤x∧x≤1000000):IntKind.u64.wrap x=x:=A2s (by show (0:Int)≤_;omega) (by show _≤(18446744073709551615:Int);omega)
theorem B9d (x:Int):0≤IntKind.u64.wrap x:=by
 show 0≤x % _
 exact Int.emod_nonneg _ (by decide)
theorem C1t (c cut:Int) (h:4≤c∧c≤80):2≤(IntKind.i64.wrap ((2:Int)+(IntKind.i64.wrap (Int.tmod (IntKind.u64.wrap cut) (IntKind.u64.wrap (IntKind.i64.wrap (c - (3:Int)))))))) ∧
  (IntKind.i64.wrap ((2:Int)+(IntKind.i64.wrap (Int.tmod (IntKind.u64.wrap cut) (IntKind.u64.wrap (IntKind.i64.wrap (c - (3:Int))))))))≤c - 2:=by
 rw [wr6 (show -1000000≤c - 3∧c - 3≤1000000 by omega),wru (show 0≤c - 3∧c - 3≤1000000 by omega)]
 have h1:=Int.tmod_nonneg (c - 3) (B9d cut)
 have h2:=Int.tmod_lt_of_pos (IntKind.u64.wrap cut) (show 0<c - 3 by omega)
 generalize Int.tmod (IntKind.u64.wrap cut) (c - 3)=m at h1 h2 ⊢
 rw [wr6 (show -1000000≤m∧m≤1000000 by omega),wr6 (show -1000000≤2+m∧2+m≤1000000 by omega)]
 omega
theorem C9a (c cut:Int) (h:4≤c∧c≤80):IntKind.i64.wrap ((IntKind.i64.wrap ((2:Int)+(IntKind.i64.wrap (Int.tmod (IntKind.u64.wrap cut) (IntKind.u64.wrap (IntKind.i64.wrap (c - (3:Int)))))))) - (1:Int))=(IntKind.i64.wrap ((2:Int)+(IntKind.i64.wrap (Int.tmod (IntKind.u64.wrap cut) (IntKind.u64.wrap (IntKind.i64.wrap (c - (3:Int)))))))) - 1:=by
 have:=C1t c cut h
 rw [wr6 (by omega)]
def A0w (f:FrmC) (r c n m:Int):FrmC:=if r≤f.cursor.row∧f.cursor.row<r+n∧c≤f.cursor.col∧f.cursor.col<c+m then {f with cols:=m,cursor:=⟨f.cursor.row - r,f.cursor.col - c⟩} else {f with cols:=m,cursor:=Plc.zero,visible:=false}
theorem A7v (f:FrmC) (r c n m:Int):(A0w f r c n m).cols=m:=by unfold A0w;split<;>rfl
theorem B7z {f:FrmC} {rows:List (List Cel)} {r c n m:Int} (h:FOk f rows) (hl:0≤r∧1≤n∧r+n≤rows.length∧0≤c∧2≤m∧c+m≤f.cols) {i:Nat} (hi:i<n.toNat):((O1 rows r c m i).length:Int)=m∧A4r (O1 rows r c m i):=by
 obtain ⟨h1,h2⟩:=h.row (i:=r.toNat+i) (by omega)
 unfold O1
 exact ⟨by rw [List.length_take,List.length_drop];omega,B3t (B4c (B5v h2) _) _⟩
theorem B9g {f:FrmC} {rows:List (List Cel)} {r c n m:Int} (h:FOk f rows) (hl:0≤r∧1≤n∧r+n≤rows.length∧0≤c∧2≤m∧c+m≤f.cols):FOk (A0w f r c n m) ((List.range n.toNat).map (fun i=>V4 (O1 rows r c m i))):=by
 have hr:=h.hr
 have hc:=h.hc
 have hlen:((((List.range n.toNat).map (fun i=>V4 (O1 rows r c m i))).length:Nat):Int)=n:=by simp;omega
 have hro:∀ x ∈ (List.range n.toNat).map (fun i=>V4 (O1 rows r c m i)),(x.length:Int)=m∧F3 x false=0:=fun x hx=>by
  obtain ⟨i,hi,rfl⟩:=List.mem_map.1 hx
  rw [List.mem_range] at hi
  obtain ⟨h1,h2⟩:=B7z h hl hi
  exact ⟨by rw [A1f];exact h1,C2j (by omega) h2 _⟩
 unfold A0w
 split
 ·exact ⟨⟨hl.2.2.2.2.1,show m≤80 by omega⟩,by rw [hlen];omega,by rw [hlen];exact ⟨show 0≤f.cursor.row - r by omega,show f.cursor.row - r<n by omega⟩,⟨show 0≤f.cursor.col - c by omega,show f.cursor.col - c<m by omega⟩,h.sh,h.ti,hro⟩
 ·exact ⟨⟨hl.2.2.2.2.1,show m≤80 by omega⟩,by rw [hlen];omega,by rw [hlen];exact ⟨show (0:Int)≤0 by omega,show (0:Int)<n by omega⟩,⟨show (0:Int)≤0 by omega,show (0:Int)<m by omega⟩,h.sh,h.ti,hro⟩
theorem B2l {f:FrmC} {rows:List (List Cel)} {r c n m:Int} (h:FOk f rows) (hl:0≤r∧1≤n∧r+n≤rows.length∧0≤c∧2≤m∧c+m≤f.cols):M5 f rows r c n m=(A0w f r c n m,(List.range n.toNat).map (fun i=>V4 (O1 rows r c m i)),0):=B9j h hl
theorem C1z {c r:Int} (hc:2≤c∧c≤80) (hr:1≤r∧r≤40):FOk (⟨c,Plc.zero,true,0,[]⟩:FrmC) (List.replicate r.toNat (List.replicate c.toNat (K6 Sty.zero))):=by
 have hl:(((List.replicate r.toNat (List.replicate c.toNat (K6 Sty.zero))).length:Nat):Int)=r:=by rw [List.length_replicate];omega
 refine ⟨hc,by rw [hl];exact hr,by rw [hl];exact ⟨show (0:Int)≤0 by omega,show (0:Int)<r by omega⟩,⟨show (0:Int)≤0 by omega,show (0:Int)<c by omega⟩,show (0:Int)≤0∧(0:Int)≤6 by decide,C7t,fun x hx=>?_⟩
 rw [List.eq_of_mem_replicate hx]
 exact ⟨by rw [List.length_replicate];show ((c.toNat:Nat):Int)=c;omega,C1j c hc _⟩
theorem B8u {f:FrmC} {rows:List (List Cel)} (h:FOk f rows):(List.range (rows.length:Int).toNat).map (fun i=>V4 (O1 rows 0 0 f.cols i))=rows:=by
 rw [show ((rows.length:Nat):Int).toNat=rows.length by omega]
 refine Eq.trans (List.map_congr_left fun i hi=>?_) (A6i rows)
 rw [List.mem_range] at hi
 obtain ⟨h1,h2⟩:=h.row hi
 have e:O1 rows 0 0 f.cols i=rows.getD i []:=by
  unfold O1
  rw [show (0:Int).toNat+i=i by omega,show (0:Int).toNat=0 from rfl,List.drop_zero,List.take_of_length_le (by omega)]
 rw [e];exact C3r h2
theorem C0q {f:FrmC} {rows:List (List Cel)} (h:FOk f rows):A0w f 0 0 rows.length f.cols=f:=by
 unfold A0w
 rw [if_pos ⟨h.h1.1,by have:=h.h1;omega,h.h2.1,by have:=h.h2;omega⟩,Int.sub_zero,Int.sub_zero]
theorem C8f {l:List Cel} (hp:Pairs l) {n k:Nat} (hk:k<n) (hn:n<l.length) (h:¬ ((l.getD (n - 1) Cel.zero).wide=1∧(k=n - 1∨k=n))):A1s (l.take n) k=l.getD k Cel.zero:=by
 have hlen:(l.take n).length=n:=by rw [List.length_take];omega
 have ha:Z5 (l.take n) k=false:=by
  unfold Z5
  rw [hlen,gt hk,Bool.or_eq_false_iff,Bool.and_eq_false_iff,Bool.and_eq_false_iff]
  constructor
  ·by_cases q:(l.getD k Cel.zero).wide=1
   ·obtain ⟨h1,h2⟩:=hp.one k (by omega) q
    have hk1:k+1<n:=by
     rcases Nat.lt_or_ge (k+1) n with c | c
     ·exact c
     ·exact absurd ⟨by rw [show n - 1=k by omega];exact q,.inl (by omega)⟩ h
    right;rw [gt hk1,decide_eq_true h2,decide_eq_false (by omega)];rfl
   ·left;exact decide_eq_false q
  ·by_cases q:(l.getD k Cel.zero).wide=2
   ·obtain ⟨h1,h2⟩:=hp.two k (by omega) q
    right;rw [gt (show k - 1<n by omega),decide_eq_true h2,decide_eq_false (by omega)];rfl
   ·left;exact decide_eq_false q
 unfold A1s;rw [ha,gt hk];rfl
theorem C8z {l:List Cel} (hp:Pairs l) {n k:Nat} (hn:0<n) (hk:n+k<l.length) (h:¬ ((l.getD (n - 1) Cel.zero).wide=1∧(n+k=n - 1∨n+k=n))):A1s (l.drop n) k=l.getD (n+k) Cel.zero:=by
 have hlen:(l.drop n).length=l.length - n:=List.length_drop
 have ha:Z5 (l.drop n) k=false:=by
  unfold Z5
  rw [hlen,gdr,gdr,gdr,Bool.or_eq_false_iff,Bool.and_eq_false_iff,Bool.and_eq_false_iff]
  constructor
  ·by_cases q:(l.getD (n+k) Cel.zero).wide=1
   ·obtain ⟨h1,h2⟩:=hp.one _ hk q
    right;rw [← Nat.add_assoc,decide_eq_true h2,decide_eq_false (by omega)];rfl
   ·left;exact decide_eq_false q
  ·by_cases q:(l.getD (n+k) Cel.zero).wide=2
   ·obtain ⟨h1,h2⟩:=hp.two _ hk q
    have hk0:k≠0:=fun c=>by subst c;exact h ⟨h2,.inr rfl⟩
    right;rw [show n+(k - 1)=n+k - 1 by omega,decide_eq_true h2,decide_eq_false (by omega)];rfl
   ·left;exact decide_eq_false q
 unfold A1s;rw [ha,gdr];rfl
end Go.Proofs.YthcjfkljekdioaaGreatDoor
