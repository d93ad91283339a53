import Derived.Test.YthcjfkljekdioaaGreatDoorMB4
set_option linter.unusedVariables false
set_option linter.unusedSimpArgs false
namespace Go.Proofs.YthcjfkljekdioaaGreatDoor
open Go Go.Fen
theorem C3j:A3l=true:=by decide +kernel
end Go.Proofs.YthcjfkljekdioaaGreatDoor
set_option linter.unusedVariables false
set_option linter.unusedSimpArgs false
namespace Go.Proofs.YthcjfkljekdioaaGreatDoor
open Go Go.Fen
structure FOk (f:FrmC) (rows:List (List Cel)):Prop where
 hc:2≤f.cols∧f.cols≤80
 hr:1≤(rows.length:Int)∧(rows.length:Int)≤40
 h1:0≤f.cursor.row∧f.cursor.row<(rows.length:Int)
 h2:0≤f.cursor.col∧f.cursor.col<f.cols
 sh:0≤f.shape∧f.shape≤6
 ti:L5 0 0 Col.zero f.title=0
 ro:∀ r ∈ rows,(r.length:Int)=f.cols∧H2 r false=0
theorem C6p {f:FrmC} {rows:List (List Cel)} (h:E9 f rows=0):FOk f rows:=by
 unfold E9 at h
 obtain ⟨h1,h2⟩:=Y9 _ _ _ _ h
 simp only [Bool.and_eq_true,decide_eq_true_eq] at h1
 obtain ⟨⟨⟨⟨⟨⟨⟨⟨⟨⟨a1,a2⟩,a3⟩,a4⟩,a5⟩,a6⟩,a7⟩,a8⟩,a9⟩,a10⟩,a11⟩:=h1
 exact ⟨⟨a1,a2⟩,⟨a3,a4⟩,⟨a5,a6⟩,⟨a7,a8⟩,⟨a9,a10⟩,a11,h2⟩
theorem B1q (f:FrmC):∀ (rows:List (List Cel)) (ok:Bool) (t:Nat),H4 f rows ok t=0∨H4 f rows ok t=330
 | [],ok,t=>by cases ok<;>simp [H4]
 | r::rows,ok,t=>by
  simp only [H4]
  generalize ((ok&&decide ((r.length:Int)=f.cols))&&decide (H2 r false=0))=b
  cases b with
  | false=>right;rfl
  | true=>exact B1q f rows true (t+1)
theorem C6e {f:FrmC} {rows:List (List Cel)} (h:E9 f rows≠0):E9 f rows=330:=(B1q f rows _ 0).resolve_left h
theorem D0z (b:List Cel):∀ (l:List Cel) (i:Nat),l=b.drop i→D7 b l i=true
 | [],i,h=>rfl
 | a::l,i,h=>by
  have hi:i<b.length:=by
   rcases Nat.lt_or_ge i b.length with h1 | h1
   ·exact h1
   ·rw [List.drop_of_length_le h1] at h;cases h
  rw [List.drop_eq_getElem_cons hi] at h
  obtain ⟨rfl,h2⟩:=List.cons.inj h
  simp only [D7]
  rw [D0z b l (i+1) h2]
  simp [List.getD_eq_getElem?_getD,hi]
theorem C7a (b:List (List Cel)):∀ (l:List (List Cel)) (i:Nat),l=b.drop i→B6 b l i=true
 | [],i,h=>rfl
 | a::l,i,h=>by
  have hi:i<b.length:=by
   rcases Nat.lt_or_ge i b.length with h1 | h1
   ·exact h1
   ·rw [List.drop_of_length_le h1] at h;cases h
  rw [List.drop_eq_getElem_cons hi] at h
  obtain ⟨rfl,h2⟩:=List.cons.inj h
  simp only [B6]
  rw [C7a b l (i+1) h2]
  unfold G9
  rw [show b.getD i []=b[i] by simp [List.getD_eq_getElem?_getD,hi],D0z b[i] b[i] 0 rfl];simp
theorem C5w (f:FrmC) (r:List (List Cel)):U3 f r f r=true:=by
 unfold U3 C0
 rw [C7a r r 0 rfl];simp
end Go.Proofs.YthcjfkljekdioaaGreatDoor
set_option linter.unusedVariables false
set_option linter.unusedSimpArgs false
namespace Go.Proofs.YthcjfkljekdioaaGreatDoor
open Go Go.Fen
def B3f (l:List Cel) (k:Nat):Bool:=(((decide ((l.getD k Cel.zero).wide=1))&&((decide (((k:Int)+1)=(l.length:Int)))||(!decide ((l.getD (k+1) Cel.zero).wide=2))))||((decide ((l.getD k Cel.zero).wide=2))&&((decide ((k:Int)=0))||(!decide ((l.getD (k - 1) Cel.zero).wide=1)))))
def C1j (l:List Cel) (k:Nat):Cel:=bif B3f l k then {Cel.zero with base:=32,sty:=(l.getD k Cel.zero).sty} else l.getD k Cel.zero
def B6s (l:List Cel):List Cel:=(List.range l.length).map (C1j l)
theorem C4u {α:Type} {l tl:List α} {x d:α} {k:Nat} (h:l.drop k=x::tl):k<l.length∧l.getD k d=x∧l.drop (k+1)=tl:=by
 have hk:k<l.length:=by
  rcases Nat.lt_or_ge k l.length with h1 | h1
  ·exact h1
  ·rw [List.drop_of_length_le h1] at h;cases h
 rw [List.drop_eq_getElem_cons hk] at h
 obtain ⟨h1,h2⟩:=List.cons.inj h
 exact ⟨hk,by simp [List.getD_eq_getElem?_getD,hk,h1],h2⟩
theorem A7d (t:List (List Cel)) (i:Nat) (ag:List (List Cel)→Nat→List (List Cel)):∀ (tl own:List Cel) (k:Nat),(t.getD i []).drop k=tl→k≤(t.getD i []).length→own=(List.range k).map (C1j (t.getD i []))++tl →
  H8 t i ag tl own k=ag (t.set i (B6s (t.getD i []))) (i+1)
 | [],own,k,h,hkl,ho=>by
  have hk:(t.getD i []).length≤k:=by simpa using h
  simp only [H8]
  rw [ho,List.append_nil]
  rw [show k=(t.getD i []).length by omega];rfl
 | x::tl,own,k,h,hkl,ho=>by
  obtain ⟨hk,hx,h2⟩:=C4u (d:=Cel.zero) h
  simp only [H8]
  have e:(((decide (x.wide=1))&&((decide (((k:Int)+1)=((t.getD i []).length:Int)))||(!decide (((t.getD i []).getD (k+1) Cel.zero).wide=2))))||((decide (x.wide=2))&&((decide ((k:Int)=0))||(!decide (((t.getD i []).getD (k - 1) Cel.zero).wide=1)))))=B3f (t.getD i []) k:=by unfold B3f;rw [hx]
  rw [e]
  have hl:((List.range k).map (C1j (t.getD i []))).length=k:=by simp
  cases ha:B3f (t.getD i []) k with
  | true =>
   rw [cond_true]
   refine A7d t i ag tl _ (k+1) h2 (by omega) ?_
   rw [ho,List.set_append,if_neg (by rw [hl];omega),hl,Nat.sub_self,List.set_cons_zero,List.range_succ,List.map_append,List.map_singleton,List.append_assoc]
   congr 1
   unfold C1j;rw [ha,hx];rfl
  | false =>
   rw [cond_false]
   refine A7d t i ag tl _ (k+1) h2 (by omega) ?_
   rw [ho,List.range_succ,List.map_append,List.map_singleton,List.append_assoc]
   congr 1
   unfold C1j;rw [ha,hx];rfl
theorem B0q:∀ (tl t:List (List Cel)) (i:Nat),t.length=i+tl.length→H6 tl t i=t.take i++(t.drop i).map B6s
 | [],t,i,h=>by simp only [H6];rw [List.take_of_length_le (by simp at h;omega),List.drop_of_length_le (by simp at h;omega)];simp
 | _::tl,t,i,h=>by
  have hi:i<t.length:=by simp at h;omega
  simp only [H6,E7,V1]
  rw [A7d t i _ (t.getD i []) (t.getD i []) 0 rfl (Nat.zero_le _) rfl,B0q tl _ (i+1) (by simp at h ⊢;omega),List.take_add_one,List.take_set_of_le (Nat.le_refl _),List.getElem?_set_self hi,List.drop_set_of_lt (by omega),List.drop_eq_getElem_cons hi]
  have:t.getD i []=t[i]:=by simp [List.getD_eq_getElem?_getD,hi]
  rw [this];simp only [Option.toList_some,List.map_cons,List.append_assoc,List.singleton_append]
theorem C5m (c:FrmC) (rows:List (List Cel)):M8 c rows=rows.map B6s:=by
 unfold M8;rw [B0q rows rows 0 (by simp)];simp
def prv (l:List Cel) (last:Cel) (k:Nat):Cel:=if k=0 then last else l.getD (k - 1) Cel.zero
def C2m (l:List Cel) (last:Cel) (k:Nat):Prop:=J5 (l.getD k Cel.zero)=0∧((prv l last k).wide=1 ↔ (l.getD k Cel.zero).wide=2)∧((l.getD k Cel.zero).wide=2→(l.getD k Cel.zero).sty=(prv l last k).sty)
theorem B6l (x:Cel) (l:List Cel) (last:Cel) (k:Nat):prv (x::l) last (k+1)=prv l x k:=by
 unfold prv
 rw [if_neg (by omega)]
 cases k with
 | zero=>rfl
 | succ k=>rw [if_neg (by omega)];rfl
theorem B6c:∀ (l:List Cel) (t:Nat) (last:Cel),N8 l t last=0 ↔ (∀ k,k<l.length→C2m l last k)∧(prv l last l.length).wide≠1
 | [],t,last=>by
  simp only [N8,List.length_nil,prv,if_true]
  by_cases h:last.wide=1<;>simp [h]
 | x::l,t,last=>by
  simp only [N8]
  have ih:=B6c l (t+1) x
  have hk:(∀ k,k<(x::l).length→C2m (x::l) last k) ↔ C2m (x::l) last 0∧∀ k,k<l.length→C2m l x k:=by
   constructor
   ·intro h
    refine ⟨h 0 (by simp),fun k hk=>?_⟩
    have:=h (k+1) (by simpa using hk)
    unfold C2m at this ⊢
    rw [B6l] at this;exact this
   ·intro ⟨h0,h⟩ k hk
    cases k with
    | zero=>exact h0
    | succ k =>
     have:=h k (by simpa using hk)
     unfold C2m at this ⊢
     rw [B6l];exact this
  rw [hk,List.length_cons,B6l]
  have h0:C2m (x::l) last 0 ↔ J5 x=0∧(last.wide=1 ↔ x.wide=2)∧(x.wide=2→x.sty=last.sty):=Iff.rfl
  rw [h0]
  by_cases c1:J5 x=0
  ·by_cases c2:(last.wide=1 ↔ x.wide=2)
   ·by_cases c3:x.wide=2→x.sty=last.sty
    ·rw [and_assoc,← ih]
     have e2:((decide (last.wide=1)) == (decide (x.wide=2)))=true:=by simp [c2]
     have e3:((decide (x.wide=2))&&(!(decide (x.sty=last.sty))))=false:=by
      by_cases q:x.wide=2
      ·simp [q,c3 q]
      ·simp [q]
     rw [e2,e3,decide_eq_true c1]
     simp only [Bool.not_true,Bool.or_self,cond_false]
     exact ⟨fun h=>⟨⟨c1,c2,c3⟩,h⟩,fun h=>h.2⟩
    ·have e3:((decide (x.wide=2))&&(!(decide (x.sty=last.sty))))=true:=by
      rw [Classical.not_imp] at c3;simp [c3.1,c3.2]
     rw [e3,Bool.or_true]
     exact ⟨fun h=>(by cases h),fun h=>absurd h.1.1.2.2 c3⟩
   ·have e2:((decide (last.wide=1)) == (decide (x.wide=2)))=false:=by
     by_cases q:last.wide=1<;>by_cases p:x.wide=2<;>simp_all
    rw [e2]
    simp only [Bool.not_false,Bool.or_true,Bool.true_or,cond_true]
    exact ⟨fun h=>(by cases h),fun h=>absurd h.1.1.2.1 c2⟩
  ·rw [decide_eq_false c1]
   simp only [Bool.not_false,Bool.true_or,cond_true]
   exact ⟨fun h=>(by cases h),fun h=>absurd h.1.1.1 c1⟩
theorem D0b (l:List Cel) (b:Bool):H2 l b=0 ↔ (2≤l.length∧l.length≤80)∧(∀ k,k<l.length→C2m l Cel.zero k)∧(prv l Cel.zero l.length).wide≠1:=by
 unfold H2
 by_cases h:2≤l.length∧l.length≤80
 ·rw [decide_eq_false (by omega),decide_eq_false (by omega)]
  exact (B6c l 0 Cel.zero).trans ⟨fun k=>⟨h,k⟩,fun k=>k.2⟩
 ·have:((decide ((l.length:Int)<2))||(decide ((80:Int)<(l.length:Int))))=true:=by simp only [Bool.or_eq_true,decide_eq_true_eq];omega
  rw [this]
  exact ⟨fun h=>(by cases h),fun k=>absurd k.1 h⟩
def C2x (l:List Cel):Prop:=(∀ k,k<l.length→J5 (l.getD k Cel.zero)=0)∧∀ k,k+1<l.length→(l.getD k Cel.zero).wide=1→(l.getD (k+1) Cel.zero).wide=2→(l.getD (k+1) Cel.zero).sty=(l.getD k Cel.zero).sty
theorem D3x {x:Cel} (h:J5 x=0):(x.wide=0∨x.wide=1∨x.wide=2)∧E3 x.sty=0:=by
 unfold J5 at h
 by_cases hs:E3 x.sty=0
 ·refine ⟨?_,hs⟩
  rw [decide_eq_true hs] at h
  cases hh:A0t x with
  | true =>
   unfold A0t at hh
   have:=of_decide_eq_true hh
   rw [this];exact .inr (.inr rfl)
  | false =>
   rw [hh] at h
   by_cases c1:0≤x.wide
   ·by_cases c2:x.wide≤1
    ·omega
    ·rw [decide_eq_false c2] at h;simp at h
   ·rw [decide_eq_false c1] at h;simp at h
 ·rw [decide_eq_false hs] at h;simp at h
theorem C9c {l:List Cel} {b:Bool} (h:H2 l b=0):C2x l:=by
 obtain ⟨hl,hk,he⟩:=(D0b l b).1 h
 refine ⟨fun k h=>(hk k h).1,fun k h h1 h2=>?_⟩
 have:=(hk (k+1) h).2.2 h2
 rw [this];unfold prv;rw [if_neg (by omega)];rfl
end Go.Proofs.YthcjfkljekdioaaGreatDoor
set_option linter.unusedVariables false
set_option linter.unusedSimpArgs false
namespace Go.Proofs.YthcjfkljekdioaaGreatDoor
open Go Go.Fen
theorem gt {α:Type} {a:List α} {d:α} {k n:Nat} (h:k<n):(a.take n).getD k d=a.getD k d:=by
 simp only [List.getD_eq_getElem?_getD,List.getElem?_take_of_lt h]
theorem gdr {α:Type} {a:List α} {d:α} {k n:Nat}:(a.drop n).getD k d=a.getD (n+k) d:=by
 simp only [List.getD_eq_getElem?_getD,List.getElem?_drop]
theorem C6k {l:List Cel} (h:C2x l) (n:Nat):C2x (l.take n):=by
 refine ⟨fun k hk=>?_,fun k hk h1 h2=>?_⟩
 ·rw [List.length_take] at hk;rw [gt (by omega)];exact h.1 k (by omega)
 ·rw [List.length_take] at hk;rw [gt (by omega)] at h1 h2;rw [gt (by omega),gt (by omega)];exact h.2 k (by omega) h1 h2
theorem C5z {l:List Cel} (h:C2x l) (n:Nat):C2x (l.drop n):=by
 refine ⟨fun k hk=>?_,fun k hk h1 h2=>?_⟩
 ·rw [List.length_drop] at hk;rw [gdr];exact h.1 _ (by omega)
 ·rw [List.length_drop] at hk;rw [gdr] at h1 h2;rw [gdr,gdr,← Nat.add_assoc];exact h.2 _ (by omega) h1 (by rw [Nat.add_assoc];exact h2)
structure Pairs (b:List Cel):Prop where
 one:∀ k,k<b.length→(b.getD k Cel.zero).wide=1→k+1<b.length∧(b.getD (k+1) Cel.zero).wide=2
 two:∀ k,k<b.length→(b.getD k Cel.zero).wide=2→k≠0∧(b.getD (k - 1) Cel.zero).wide=1
theorem B3i (f:FrmC):∀ (rows:List (List Cel)) (t:Nat),(∀ r ∈ rows,(r.length:Int)=f.cols∧H2 r false=0)→H4 f rows true t=0
 | [],t,h=>rfl
 | r::rows,t,h=>by
  obtain ⟨h1,h2⟩:=h r (List.mem_cons_self ..)
  simp only [H4]
  rw [decide_eq_true h1,h2]
  exact B3i f rows (t+1) fun x hx=>h x (List.mem_cons_of_mem _ hx)
theorem C8g {f:FrmC} {rows:List (List Cel)} (h:FOk f rows):E9 f rows=0:=by
 unfold E9
 rw [decide_eq_true h.hc.1,decide_eq_true h.hc.2,decide_eq_true h.hr.1,decide_eq_true h.hr.2,decide_eq_true h.h1.1,decide_eq_true h.h1.2,decide_eq_true h.h2.1,decide_eq_true h.h2.2,decide_eq_true h.sh.1,decide_eq_true h.sh.2,decide_eq_true h.ti]
 exact B3i f rows 0 h.ro
theorem FOk.row {f:FrmC} {rows:List (List Cel)} (h:FOk f rows) {i:Nat} (hi:i<rows.length):((rows.getD i []).length:Int)=f.cols∧H2 (rows.getD i []) false=0:=by
 have:rows.getD i []=rows[i]:=by simp [List.getD_eq_getElem?_getD,hi]
 rw [this];exact h.ro _ (List.getElem_mem hi)
theorem C4i {f:FrmC} {rows:List (List Cel)} {r c n m:Int} (h:0≤r∧1≤n∧r+n≤rows.length∧0≤c∧2≤m∧c+m≤f.cols):Q0 f rows r c n m=true:=by
 unfold Q0;simp only [Bool.and_eq_true,decide_eq_true_eq];omega
def A2f (rows:List (List Cel)) (r c m:Int) (i:Nat):List Cel:=((rows.getD (r.toNat+i) []).drop c.toNat).take m.toNat
theorem C6g {f:FrmC} {rows:List (List Cel)} {r c n m:Int} (h:FOk f rows) (hl:0≤r∧1≤n∧r+n≤rows.length∧0≤c∧2≤m∧c+m≤f.cols) :
  M8 ({f with cols:=m}) (L4 n f rows r c n m)=(List.range n.toNat).map (fun i=>B6s (A2f rows r c m i)):=by
 rw [C5m,A1t,List.map_map]
 refine List.map_congr_left fun i hi=>?_
 rw [List.mem_range] at hi
 simp only [Function.comp_apply]
 unfold V9 A2f
 rw [show ((i:Nat):Int).toNat=i by omega,Nat.add_sub_cancel_left]
theorem D0e {f:FrmC} {rows:List (List Cel)} {r c n m:Int} (h:FOk f rows) (hl:0≤r∧1≤n∧r+n≤rows.length∧0≤c∧2≤m∧c+m≤f.cols) :
  O7 f rows r c n m=(if r≤f.cursor.row∧f.cursor.row<r+n∧c≤f.cursor.col∧f.cursor.col<c+m then {f with cols:=m,cursor:=⟨f.cursor.row - r,f.cursor.col - c⟩} else {f with cols:=m,cursor:=Plc.zero,visible:=false},(List.range n.toNat).map (fun i=>B6s (A2f rows r c m i)),0):=by
 have hr:=h.hr
 have hc:=h.hc
 have h1:=h.h1
 have h2:=h.h2
 unfold O7 E7
 rw [C8g h,C4i hl]
 simp only [decide_true,Bool.not_true,cond_false]
 rw [C6g h hl,wr6 (show -1000000≤f.cursor.row - r∧f.cursor.row - r≤1000000 by omega),wr6 (show -1000000≤f.cursor.col - c∧f.cursor.col - c≤1000000 by omega)]
 by_cases q:r≤f.cursor.row∧f.cursor.row<r+n∧c≤f.cursor.col∧f.cursor.col<c+m
 ·rw [if_pos q,decide_eq_true (by omega),decide_eq_true (by omega),decide_eq_true (by omega),decide_eq_true (by omega)];rfl
 ·rw [if_neg q]
  have:((((decide ((0:Int)≤f.cursor.row - r))&&(decide (f.cursor.row - r<n)))&&(decide ((0:Int)≤f.cursor.col - c)))&&(decide (f.cursor.col - c<m)))=false:=by
   rw [← Bool.not_eq_true];simp only [Bool.and_eq_true,decide_eq_true_eq];omega
  rw [this];rfl
end Go.Proofs.YthcjfkljekdioaaGreatDoor
set_option linter.unusedVariables false
set_option linter.unusedSimpArgs false
namespace Go.Proofs.YthcjfkljekdioaaGreatDoor
open Go Go.Fen
def B4n (f:FrmC) (r c n m:Int):FrmC:=if r≤f.cursor.row∧f.cursor.row<r+n∧c≤f.cursor.col∧f.cursor.col<c+m then {f with cols:=m,cursor:=⟨f.cursor.row - r,f.cursor.col - c⟩} else {f with cols:=m,cursor:=Plc.zero,visible:=false}
theorem C3k {f:FrmC} {rows:List (List Cel)} {r c n m:Int} (h:FOk f rows) (hl:0≤r∧1≤n∧r+n≤rows.length∧0≤c∧2≤m∧c+m≤f.cols) {i:Nat} (hi:i<n.toNat):((A2f rows r c m i).length:Int)=m∧C2x (A2f rows r c m i):=by
 obtain ⟨h1,h2⟩:=h.row (i:=r.toNat+i) (by omega)
 unfold A2f
 exact ⟨by rw [List.length_take,List.length_drop];omega,C6k (C5z (C9c h2) _) _⟩
theorem C8x {f:FrmC} {rows:List (List Cel)} {r c n m:Int} (h:FOk f rows) (hl:0≤r∧1≤n∧r+n≤rows.length∧0≤c∧2≤m∧c+m≤f.cols):O7 f rows r c n m=(B4n f r c n m,(List.range n.toNat).map (fun i=>B6s (A2f rows r c m i)),0):=D0e h hl
end Go.Proofs.YthcjfkljekdioaaGreatDoor
