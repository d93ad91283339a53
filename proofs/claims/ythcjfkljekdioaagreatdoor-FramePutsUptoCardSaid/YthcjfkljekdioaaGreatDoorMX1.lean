import Derived.Test.YthcjfkljekdioaaGreatDoorMB4
set_option linter.unusedVariables false
set_option linter.unusedSimpArgs false
namespace Go.Proofs.YthcjfkljekdioaaGreatDoor
open Go Go.Fen
theorem C3h:A3h=true:=by decide +kernel
end Go.Proofs.YthcjfkljekdioaaGreatDoor
set_option linter.unusedVariables false
set_option linter.unusedSimpArgs false
namespace Go.Proofs.YthcjfkljekdioaaGreatDoor
open Go Go.Fen
structure FOk (f:FrmC) (rows:List (List Cel)):Prop where
 hc:2≤f.cols∧f.cols≤80
 hr:1≤(rows.length:Int)∧(rows.length:Int)≤40
 h1:0≤f.cursor.row∧f.cursor.row<(rows.length:Int)
 h2:0≤f.cursor.col∧f.cursor.col<f.cols
 sh:0≤f.shape∧f.shape≤6
 ti:L7 0 0 Col.zero f.title=0
 ro:∀ r ∈ rows,(r.length:Int)=f.cols∧H1 r false=0
theorem C3b {f:FrmC} {rows:List (List Cel)} (h:F1 f rows=0):FOk f rows:=by
 unfold F1 at h
 obtain ⟨h1,h2⟩:=Z1 _ _ _ _ h
 simp only [Bool.and_eq_true,decide_eq_true_eq] at h1
 obtain ⟨⟨⟨⟨⟨⟨⟨⟨⟨⟨a1,a2⟩,a3⟩,a4⟩,a5⟩,a6⟩,a7⟩,a8⟩,a9⟩,a10⟩,a11⟩:=h1
 exact ⟨⟨a1,a2⟩,⟨a3,a4⟩,⟨a5,a6⟩,⟨a7,a8⟩,⟨a9,a10⟩,a11,h2⟩
theorem B2d (f:FrmC):∀ (rows:List (List Cel)) (ok:Bool) (t:Nat),H4 f rows ok t=0∨H4 f rows ok t=330
 | [],ok,t=>by cases ok<;>simp [H4]
 | r::rows,ok,t=>by
  simp only [H4]
  generalize ((ok&&decide ((r.length:Int)=f.cols))&&decide (H1 r false=0))=b
  cases b with
  | false=>right;rfl
  | true=>exact B2d f rows true (t+1)
theorem B8j {f:FrmC} {rows:List (List Cel)} (h:F1 f rows≠0):F1 f rows=330:=(B2d f rows _ 0).resolve_left h
theorem D1l (b:List Cel):∀ (l:List Cel) (i:Nat),l=b.drop i→D8 b l i=true
 | [],i,h=>rfl
 | a::l,i,h=>by
  have hi:i<b.length:=by
   rcases Nat.lt_or_ge i b.length with h1 | h1
   ·exact h1
   ·rw [List.drop_of_length_le h1] at h;cases h
  rw [List.drop_eq_getElem_cons hi] at h
  obtain ⟨rfl,h2⟩:=List.cons.inj h
  simp only [D8]
  rw [D1l b l (i+1) h2]
  simp [List.getD_eq_getElem?_getD,hi]
theorem C7t (b:List (List Cel)):∀ (l:List (List Cel)) (i:Nat),l=b.drop i→B6 b l i=true
 | [],i,h=>rfl
 | a::l,i,h=>by
  have hi:i<b.length:=by
   rcases Nat.lt_or_ge i b.length with h1 | h1
   ·exact h1
   ·rw [List.drop_of_length_le h1] at h;cases h
  rw [List.drop_eq_getElem_cons hi] at h
  obtain ⟨rfl,h2⟩:=List.cons.inj h
  simp only [B6]
  rw [C7t b l (i+1) h2]
  unfold G9
  rw [show b.getD i []=b[i] by simp [List.getD_eq_getElem?_getD,hi],D1l b[i] b[i] 0 rfl];simp
theorem C6l (f:FrmC) (r:List (List Cel)):U9 f r f r=true:=by
 unfold U9 C3
 rw [C7t r r 0 rfl];simp
end Go.Proofs.YthcjfkljekdioaaGreatDoor
set_option linter.unusedVariables false
set_option linter.unusedSimpArgs false
namespace Go.Proofs.YthcjfkljekdioaaGreatDoor
open Go Go.Fen
def B4b (l:List Cel) (k:Nat):Bool:=(((decide ((l.getD k Cel.zero).wide=1))&&((decide (((k:Int)+1)=(l.length:Int)))||(!decide ((l.getD (k+1) Cel.zero).wide=2))))||((decide ((l.getD k Cel.zero).wide=2))&&((decide ((k:Int)=0))||(!decide ((l.getD (k - 1) Cel.zero).wide=1)))))
def C1r (l:List Cel) (k:Nat):Cel:=bif B4b l k then {Cel.zero with base:=32,sty:=(l.getD k Cel.zero).sty} else l.getD k Cel.zero
def B7n (l:List Cel):List Cel:=(List.range l.length).map (C1r l)
theorem C0p {α:Type} {l tl:List α} {x d:α} {k:Nat} (h:l.drop k=x::tl):k<l.length∧l.getD k d=x∧l.drop (k+1)=tl:=by
 have hk:k<l.length:=by
  rcases Nat.lt_or_ge k l.length with h1 | h1
  ·exact h1
  ·rw [List.drop_of_length_le h1] at h;cases h
 rw [List.drop_eq_getElem_cons hk] at h
 obtain ⟨h1,h2⟩:=List.cons.inj h
 exact ⟨hk,by simp [List.getD_eq_getElem?_getD,hk,h1],h2⟩
theorem A6z (t:List (List Cel)) (i:Nat) (ag:List (List Cel)→Nat→List (List Cel)):∀ (tl own:List Cel) (k:Nat),(t.getD i []).drop k=tl→k≤(t.getD i []).length→own=(List.range k).map (C1r (t.getD i []))++tl →
  H8 t i ag tl own k=ag (t.set i (B7n (t.getD i []))) (i+1)
 | [],own,k,h,hkl,ho=>by
  have hk:(t.getD i []).length≤k:=by simpa using h
  simp only [H8]
  rw [ho,List.append_nil]
  rw [show k=(t.getD i []).length by omega];rfl
 | x::tl,own,k,h,hkl,ho=>by
  obtain ⟨hk,hx,h2⟩:=C0p (d:=Cel.zero) h
  simp only [H8]
  have e:(((decide (x.wide=1))&&((decide (((k:Int)+1)=((t.getD i []).length:Int)))||(!decide (((t.getD i []).getD (k+1) Cel.zero).wide=2))))||((decide (x.wide=2))&&((decide ((k:Int)=0))||(!decide (((t.getD i []).getD (k - 1) Cel.zero).wide=1)))))=B4b (t.getD i []) k:=by unfold B4b;rw [hx]
  rw [e]
  have hl:((List.range k).map (C1r (t.getD i []))).length=k:=by simp
  cases ha:B4b (t.getD i []) k with
  | true =>
   rw [cond_true]
   refine A6z t i ag tl _ (k+1) h2 (by omega) ?_
   rw [ho,List.set_append,if_neg (by rw [hl];omega),hl,Nat.sub_self,List.set_cons_zero,List.range_succ,List.map_append,List.map_singleton,List.append_assoc]
   congr 1
   unfold C1r;rw [ha,hx];rfl
  | false =>
   rw [cond_false]
   refine A6z t i ag tl _ (k+1) h2 (by omega) ?_
   rw [ho,List.range_succ,List.map_append,List.map_singleton,List.append_assoc]
   congr 1
   unfold C1r;rw [ha,hx];rfl
theorem B1f:∀ (tl t:List (List Cel)) (i:Nat),t.length=i+tl.length→H6 tl t i=t.take i++(t.drop i).map B7n
 | [],t,i,h=>by simp only [H6];rw [List.take_of_length_le (by simp at h;omega),List.drop_of_length_le (by simp at h;omega)];simp
 | _::tl,t,i,h=>by
  have hi:i<t.length:=by simp at h;omega
  simp only [H6,E8,V3]
  rw [A6z t i _ (t.getD i []) (t.getD i []) 0 rfl (Nat.zero_le _) rfl,B1f tl _ (i+1) (by simp at h ⊢;omega),List.take_add_one,List.take_set_of_le (Nat.le_refl _),List.getElem?_set_self hi,List.drop_set_of_lt (by omega),List.drop_eq_getElem_cons hi]
  have:t.getD i []=t[i]:=by simp [List.getD_eq_getElem?_getD,hi]
  rw [this];simp only [Option.toList_some,List.map_cons,List.append_assoc,List.singleton_append]
theorem C6u (c:FrmC) (rows:List (List Cel)):N3 c rows=rows.map B7n:=by
 unfold N3;rw [B1f rows rows 0 (by simp)];simp
def prv (l:List Cel) (last:Cel) (k:Nat):Cel:=if k=0 then last else l.getD (k - 1) Cel.zero
def C2n (l:List Cel) (last:Cel) (k:Nat):Prop:=J8 (l.getD k Cel.zero)=0∧((prv l last k).wide=1 ↔ (l.getD k Cel.zero).wide=2)∧((l.getD k Cel.zero).wide=2→(l.getD k Cel.zero).sty=(prv l last k).sty)
theorem B5m (x:Cel) (l:List Cel) (last:Cel) (k:Nat):prv (x::l) last (k+1)=prv l x k:=by
 unfold prv
 rw [if_neg (by omega)]
 cases k with
 | zero=>rfl
 | succ k=>rw [if_neg (by omega)];rfl
theorem B5l:∀ (l:List Cel) (t:Nat) (last:Cel),N9 l t last=0 ↔ (∀ k,k<l.length→C2n l last k)∧(prv l last l.length).wide≠1
 | [],t,last=>by
  simp only [N9,List.length_nil,prv,if_true]
  by_cases h:last.wide=1<;>simp [h]
 | x::l,t,last=>by
  simp only [N9]
  have ih:=B5l l (t+1) x
  have hk:(∀ k,k<(x::l).length→C2n (x::l) last k) ↔ C2n (x::l) last 0∧∀ k,k<l.length→C2n l x k:=by
   constructor
   ·intro h
    refine ⟨h 0 (by simp),fun k hk=>?_⟩
    have:=h (k+1) (by simpa using hk)
    unfold C2n at this ⊢
    rw [B5m] at this;exact this
   ·intro ⟨h0,h⟩ k hk
    cases k with
    | zero=>exact h0
    | succ k =>
     have:=h k (by simpa using hk)
     unfold C2n at this ⊢
     rw [B5m];exact this
  rw [hk,List.length_cons,B5m]
  have h0:C2n (x::l) last 0 ↔ J8 x=0∧(last.wide=1 ↔ x.wide=2)∧(x.wide=2→x.sty=last.sty):=Iff.rfl
  rw [h0]
  by_cases c1:J8 x=0
  ·by_cases c2:(last.wide=1 ↔ x.wide=2)
   ·by_cases c3:x.wide=2→x.sty=last.sty
    ·rw [and_assoc,← ih]
     have e2:((decide (last.wide=1)) == (decide (x.wide=2)))=true:=by simp [c2]
     have e3:((decide (x.wide=2))&&(!(decide (x.sty=last.sty))))=false:=by
      by_cases q:x.wide=2
      ·simp [q,c3 q]
      ·simp [q]
     rw [e2,e3,decide_eq_true c1]
     simp only [Bool.not_true,Bool.or_self,cond_false]
     exact ⟨fun h=>⟨⟨c1,c2,c3⟩,h⟩,fun h=>h.2⟩
    ·have e3:((decide (x.wide=2))&&(!(decide (x.sty=last.sty))))=true:=by
      rw [Classical.not_imp] at c3;simp [c3.1,c3.2]
     rw [e3,Bool.or_true]
     exact ⟨fun h=>(by cases h),fun h=>absurd h.1.1.2.2 c3⟩
   ·have e2:((decide (last.wide=1)) == (decide (x.wide=2)))=false:=by
     by_cases q:last.wide=1<;>by_cases p:x.wide=2<;>simp_all
    rw [e2]
    simp only [Bool.not_false,Bool.or_true,Bool.true_or,cond_true]
    exact ⟨fun h=>(by cases h),fun h=>absurd h.1.1.2.1 c2⟩
  ·rw [decide_eq_false c1]
   simp only [Bool.not_false,Bool.true_or,cond_true]
   exact ⟨fun h=>(by cases h),fun h=>absurd h.1.1.1 c1⟩
theorem C4v (l:List Cel) (b:Bool):H1 l b=0 ↔ (2≤l.length∧l.length≤80)∧(∀ k,k<l.length→C2n l Cel.zero k)∧(prv l Cel.zero l.length).wide≠1:=by
 unfold H1
 by_cases h:2≤l.length∧l.length≤80
 ·rw [decide_eq_false (by omega),decide_eq_false (by omega)]
  exact (B5l l 0 Cel.zero).trans ⟨fun k=>⟨h,k⟩,fun k=>k.2⟩
 ·have:((decide ((l.length:Int)<2))||(decide ((80:Int)<(l.length:Int))))=true:=by simp only [Bool.or_eq_true,decide_eq_true_eq];omega
  rw [this]
  exact ⟨fun h=>(by cases h),fun k=>absurd k.1 h⟩
def A8p (l:List Cel):Prop:=(∀ k,k<l.length→J8 (l.getD k Cel.zero)=0)∧∀ k,k+1<l.length→(l.getD k Cel.zero).wide=1→(l.getD (k+1) Cel.zero).wide=2→(l.getD (k+1) Cel.zero).sty=(l.getD k Cel.zero).sty
theorem D4f {x:Cel} (h:J8 x=0):(x.wide=0∨x.wide=1∨x.wide=2)∧E5 x.sty=0:=by
 unfold J8 at h
 by_cases hs:E5 x.sty=0
 ·refine ⟨?_,hs⟩
  rw [decide_eq_true hs] at h
  cases hh:A0w x with
  | true =>
   unfold A0w at hh
   have:=of_decide_eq_true hh
   rw [this];exact .inr (.inr rfl)
  | false =>
   rw [hh] at h
   by_cases c1:0≤x.wide
   ·by_cases c2:x.wide≤1
    ·omega
    ·rw [decide_eq_false c2] at h;simp at h
   ·rw [decide_eq_false c1] at h;simp at h
 ·rw [decide_eq_false hs] at h;simp at h
theorem C4u {l:List Cel} {b:Bool} (h:H1 l b=0):A8p l:=by
 obtain ⟨hl,hk,he⟩:=(C4v l b).1 h
 refine ⟨fun k h=>(hk k h).1,fun k h h1 h2=>?_⟩
 have:=(hk (k+1) h).2.2 h2
 rw [this];unfold prv;rw [if_neg (by omega)];rfl
end Go.Proofs.YthcjfkljekdioaaGreatDoor
set_option linter.unusedVariables false
set_option linter.unusedSimpArgs false
namespace Go.Proofs.YthcjfkljekdioaaGreatDoor
open Go Go.Fen
theorem C6w {α:Type} {a b:List α} {d:α} {k:Nat} (h:k<a.length):(a++b).getD k d=a.getD k d:=by
 simp only [List.getD_eq_getElem?_getD,List.getElem?_append_left h]
theorem D3s {α:Type} {a b:List α} {d:α} {k:Nat}:(a++b).getD (a.length+k) d=b.getD k d:=by
 simp only [List.getD_eq_getElem?_getD];rw [List.getElem?_append_right (by omega),Nat.add_sub_cancel_left]
theorem C2o {α:Type} {a b:List α} {d:α} {k:Nat} (h:a.length≤k):(a++b).getD k d=b.getD (k - a.length) d:=by
 simp only [List.getD_eq_getElem?_getD];rw [List.getElem?_append_right h]
theorem gt {α:Type} {a:List α} {d:α} {k n:Nat} (h:k<n):(a.take n).getD k d=a.getD k d:=by
 simp only [List.getD_eq_getElem?_getD,List.getElem?_take_of_lt h]
theorem gdr {α:Type} {a:List α} {d:α} {k n:Nat}:(a.drop n).getD k d=a.getD (n+k) d:=by
 simp only [List.getD_eq_getElem?_getD,List.getElem?_drop]
theorem C6c {l:List Cel} (h:A8p l) (n:Nat):A8p (l.take n):=by
 refine ⟨fun k hk=>?_,fun k hk h1 h2=>?_⟩
 ·rw [List.length_take] at hk;rw [gt (by omega)];exact h.1 k (by omega)
 ·rw [List.length_take] at hk;rw [gt (by omega)] at h1 h2;rw [gt (by omega),gt (by omega)];exact h.2 k (by omega) h1 h2
theorem C6x {l:List Cel} (h:A8p l) (n:Nat):A8p (l.drop n):=by
 refine ⟨fun k hk=>?_,fun k hk h1 h2=>?_⟩
 ·rw [List.length_drop] at hk;rw [gdr];exact h.1 _ (by omega)
 ·rw [List.length_drop] at hk;rw [gdr] at h1 h2;rw [gdr,gdr,← Nat.add_assoc];exact h.2 _ (by omega) h1 (by rw [Nat.add_assoc];exact h2)
structure Pairs (b:List Cel):Prop where
 one:∀ k,k<b.length→(b.getD k Cel.zero).wide=1→k+1<b.length∧(b.getD (k+1) Cel.zero).wide=2
 two:∀ k,k<b.length→(b.getD k Cel.zero).wide=2→k≠0∧(b.getD (k - 1) Cel.zero).wide=1
theorem C8g {l:List Cel} {b:Bool} (h:H1 l b=0):Pairs l:=by
 obtain ⟨hl,hk,he⟩:=(C4v l b).1 h
 refine ⟨fun k h h1=>?_,fun k h h2=>?_⟩
 ·have hlt:k+1<l.length:=by
   rcases Nat.lt_or_ge (k+1) l.length with q | q
   ·exact q
   ·exfalso;apply he;unfold prv;rw [if_neg (by omega),show l.length - 1=k by omega];exact h1
  refine ⟨hlt,((hk (k+1) hlt).2.1).1 ?_⟩
  unfold prv;rw [if_neg (by omega)];exact h1
 ·have:=(hk k h).2.1.2 h2
  unfold prv at this
  split at this
  ·simp [Cel.zero] at this
  ·exact ⟨by assumption,this⟩
theorem C2c {a b:List Cel} (ha:A8p a) (hb:A8p b) (h:0<a.length→0<b.length→(a.getD (a.length - 1) Cel.zero).wide=1→(b.getD 0 Cel.zero).wide=2→False):A8p (a++b):=by
 refine ⟨fun k hk=>?_,fun k hk h1 h2=>?_⟩
 ·rw [List.length_append] at hk
  by_cases c:k<a.length
  ·rw [C6w c];exact ha.1 k c
  ·rw [C2o (by omega)];exact hb.1 _ (by omega)
 ·rw [List.length_append] at hk
  by_cases c:k+1<a.length
  ·rw [C6w c] at h2 ⊢;rw [C6w (show k<a.length by omega)] at h1 ⊢;exact ha.2 k c h1 h2
  ·by_cases c2:k<a.length
   ·rw [C6w c2] at h1
    rw [C2o (show a.length≤k+1 by omega),show k+1 - a.length=0 by omega] at h2
    exact (h (by omega) (by omega) (by rw [show a.length - 1=k by omega];exact h1) h2).elim
   ·rw [C2o (show a.length≤k by omega)] at h1 ⊢
    rw [C2o (show a.length≤k+1 by omega),show k+1 - a.length=k - a.length+1 by omega] at h2 ⊢
    exact hb.2 _ (by omega) h1 h2
theorem C4g {a b:List Cel} (ha:A8p a) (hb:A8p b) (hp:Pairs b):A8p (a++b):=C2c ha hb fun _ h0 _ h2=>(hp.two 0 h0 h2).1 rfl
theorem C5w {a b c:List Cel} (ha:A8p a) (hb:A8p b) (hc:A8p c) (hp:Pairs b) (h0:0<b.length):A8p (a++b++c):=by
 refine C2c (C4g ha hb hp) hc fun _ _ h1 _=>?_
 rw [List.length_append,show a.length+b.length - 1=a.length+(b.length - 1) by omega,D3s] at h1
 have:=(hp.one _ (show b.length - 1<b.length by omega) h1).1;omega
theorem B3x (f:FrmC):∀ (rows:List (List Cel)) (t:Nat),(∀ r ∈ rows,(r.length:Int)=f.cols∧H1 r false=0)→H4 f rows true t=0
 | [],t,h=>rfl
 | r::rows,t,h=>by
  obtain ⟨h1,h2⟩:=h r (List.mem_cons_self ..)
  simp only [H4]
  rw [decide_eq_true h1,h2]
  exact B3x f rows (t+1) fun x hx=>h x (List.mem_cons_of_mem _ hx)
theorem C1m {f:FrmC} {rows:List (List Cel)} (h:FOk f rows):F1 f rows=0:=by
 unfold F1
 rw [decide_eq_true h.hc.1,decide_eq_true h.hc.2,decide_eq_true h.hr.1,decide_eq_true h.hr.2,decide_eq_true h.h1.1,decide_eq_true h.h1.2,decide_eq_true h.h2.1,decide_eq_true h.h2.2,decide_eq_true h.sh.1,decide_eq_true h.sh.2,decide_eq_true h.ti]
 exact B3x f rows 0 h.ro
theorem FOk.row {f:FrmC} {rows:List (List Cel)} (h:FOk f rows) {i:Nat} (hi:i<rows.length):((rows.getD i []).length:Int)=f.cols∧H1 (rows.getD i []) false=0:=by
 have:rows.getD i []=rows[i]:=by simp [List.getD_eq_getElem?_getD,hi]
 rw [this];exact h.ro _ (List.getElem_mem hi)
theorem C4z {f:FrmC} {rows:List (List Cel)} {r c n m:Int} (h:0≤r∧1≤n∧r+n≤rows.length∧0≤c∧2≤m∧c+m≤f.cols):Q2 f rows r c n m=true:=by
 unfold Q2;simp only [Bool.and_eq_true,decide_eq_true_eq];omega
def A0o (fr gr:List (List Cel)) (p:Plc) (m:Int) (i:Nat):List Cel :=
 if p.row≤i∧(i:Int)<p.row+gr.length then ((fr.getD i []).take p.col.toNat)++(gr.getD (i - p.row.toNat) [])++((fr.getD i []).drop (p.col.toNat+m.toNat)) else fr.getD i []
theorem C7x {f:FrmC} {fr:List (List Cel)} {g:FrmC} {gr:List (List Cel)} {p:Plc} (hf:FOk f fr) (hg:FOk g gr) (hl:0≤p.row∧p.row+gr.length≤fr.length∧0≤p.col∧p.col+g.cols≤f.cols) :
  N3 f (K7 fr.length p g gr f fr)=(List.range fr.length).map (fun i=>B7n (A0o fr gr p g.cols i)):=by
 rw [C6u,A1k,List.map_map,show ((fr.length:Nat):Int).toNat=fr.length by omega]
 refine List.map_congr_left fun i hi=>?_
 rw [List.mem_range] at hi
 simp only [Function.comp_apply]
 unfold X8 A0o E8
 rw [show ((i:Nat):Int).toNat=i by omega]
 by_cases q:p.row≤i∧(i:Int)<p.row+gr.length
 ·rw [if_pos q,decide_eq_false (by omega),decide_eq_false (by omega)]
  simp only [Bool.or_self,cond_false,O3,List.flatten_cons,List.flatten_nil,List.append_nil,List.append_assoc]
 ·rw [if_neg q]
  have:((decide (((i:Int) - p.row)<0))||(decide ((gr.length:Int)≤((i:Int) - p.row))))=true:=by
   simp only [Bool.or_eq_true,decide_eq_true_eq];omega
  rw [this];rfl
theorem C9s {f:FrmC} {fr:List (List Cel)} {g:FrmC} {gr:List (List Cel)} {p:Plc} (hf:FOk f fr) (hg:FOk g gr) (hl:0≤p.row∧p.row+gr.length≤fr.length∧0≤p.col∧p.col+g.cols≤f.cols) :
  Q7 f fr g gr p=(f,(List.range fr.length).map (fun i=>B7n (A0o fr gr p g.cols i)),0):=by
 unfold Q7 E8
 have h1:=hg.hr
 have h2:=hg.hc
 rw [C1m hf,C1m hg,C4z (f:=f) (rows:=fr) ⟨hl.1,h1.1,hl.2.1,hl.2.2.1,h2.1,hl.2.2.2⟩]
 simp only [decide_true,Bool.not_true,cond_false]
 rw [C7x hf hg hl]
theorem C3w {f:FrmC} {fr:List (List Cel)} {g:FrmC} {gr:List (List Cel)} {p:Plc} (hf:FOk f fr) (hg:FOk g gr) (hl:0≤p.row∧p.row+gr.length≤fr.length∧0≤p.col∧p.col+g.cols≤f.cols) {i:Nat} (hi:i<fr.length):((A0o fr gr p g.cols i).length:Int)=f.cols:=by
 have h1:=(hf.row hi).1
 have hc:=hg.hc
 unfold A0o
 split
 ·have h2:=(hg.row (i:=i - p.row.toNat) (by omega)).1
  simp only [List.length_append,List.length_take,List.length_drop];omega
 ·exact h1
theorem C2d {f:FrmC} {fr:List (List Cel)} {g:FrmC} {gr:List (List Cel)} {p:Plc} (hf:FOk f fr) (hg:FOk g gr) (hl:0≤p.row∧p.row+gr.length≤fr.length∧0≤p.col∧p.col+g.cols≤f.cols) {i:Nat} (hi:i<fr.length):A8p (A0o fr gr p g.cols i):=by
 have h1:=C4u (hf.row hi).2
 have hc:=hg.hc
 unfold A0o
 split
 ·have h2:=hg.row (i:=i - p.row.toNat) (by omega)
  exact C5w (C6c h1 _) (C4u h2.2) (C6x h1 _) (C8g h2.2) (by omega)
 ·exact h1
end Go.Proofs.YthcjfkljekdioaaGreatDoor
set_option linter.unusedVariables false
set_option linter.unusedSimpArgs false
namespace Go.Proofs.YthcjfkljekdioaaGreatDoor
open Go Go.Fen
end Go.Proofs.YthcjfkljekdioaaGreatDoor
