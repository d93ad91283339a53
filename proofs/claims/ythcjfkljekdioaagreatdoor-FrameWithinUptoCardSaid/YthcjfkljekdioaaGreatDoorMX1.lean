import Derived.Test.YthcjfkljekdioaaGreatDoorMB4
set_option linter.unusedVariables false
set_option linter.unusedSimpArgs false
namespace Go.Proofs.YthcjfkljekdioaaGreatDoor
open Go Go.Fen
theorem B7z:A0q=true:=by decide +kernel
end Go.Proofs.YthcjfkljekdioaaGreatDoor
set_option linter.unusedVariables false
set_option linter.unusedSimpArgs false
namespace Go.Proofs.YthcjfkljekdioaaGreatDoor
open Go Go.Fen
structure FOk (f:FrmC) (rows:List (List Cel)):Prop where
 hc:2≤f.cols∧f.cols≤80
 hr:1≤(rows.length:Int)∧(rows.length:Int)≤40
 h1:0≤f.cursor.row∧f.cursor.row<(rows.length:Int)
 h2:0≤f.cursor.col∧f.cursor.col<f.cols
 sh:0≤f.shape∧f.shape≤6
 ti:M6 0 0 Col.zero f.title=0
 ro:∀ r ∈ rows,(r.length:Int)=f.cols∧F7 r false=0
theorem A7a {f:FrmC} {rows:List (List Cel)} (h:B6 f rows=0):FOk f rows:=by
 unfold B6 at h
 obtain ⟨h1,h2⟩:=Z0 _ _ _ _ h
 simp only [Bool.and_eq_true,decide_eq_true_eq] at h1
 obtain ⟨⟨⟨⟨⟨⟨⟨⟨⟨⟨a1,a2⟩,a3⟩,a4⟩,a5⟩,a6⟩,a7⟩,a8⟩,a9⟩,a10⟩,a11⟩:=h1
 exact ⟨⟨a1,a2⟩,⟨a3,a4⟩,⟨a5,a6⟩,⟨a7,a8⟩,⟨a9,a10⟩,a11,h2⟩
theorem A7v (f:FrmC):∀ (rows:List (List Cel)) (ok:Bool) (t:Nat),H5 f rows ok t=0∨H5 f rows ok t=330
 | [],ok,t=>by cases ok<;>simp [H5]
 | r::rows,ok,t=>by
  simp only [H5]
  generalize ((ok&&decide ((r.length:Int)=f.cols))&&decide (F7 r false=0))=b
  cases b with
  | false=>right;rfl
  | true=>exact A7v f rows true (t+1)
theorem B3u {f:FrmC} {rows:List (List Cel)} (h:B6 f rows≠0):B6 f rows=330:=(A7v f rows _ 0).resolve_left h
end Go.Proofs.YthcjfkljekdioaaGreatDoor
set_option linter.unusedVariables false
set_option linter.unusedSimpArgs false
namespace Go.Proofs.YthcjfkljekdioaaGreatDoor
open Go Go.Fen
def A1e (l:List Cel) (k:Nat):Bool:=(((decide ((l.getD k Cel.zero).wide=1))&&((decide (((k:Int)+1)=(l.length:Int)))||(!decide ((l.getD (k+1) Cel.zero).wide=2))))||((decide ((l.getD k Cel.zero).wide=2))&&((decide ((k:Int)=0))||(!decide ((l.getD (k - 1) Cel.zero).wide=1)))))
def A2f (l:List Cel) (k:Nat):Cel:=bif A1e l k then {Cel.zero with base:=32,sty:=(l.getD k Cel.zero).sty} else l.getD k Cel.zero
def A0t (l:List Cel):List Cel:=(List.range l.length).map (A2f l)
theorem A3h (l:List Cel):(A0t l).length=l.length:=by simp [A0t]
theorem A2z (l:List Cel) {k:Nat} (h:k<l.length):(A0t l).getD k Cel.zero=A2f l k:=by simp [A0t,List.getD_eq_getElem?_getD,h]
theorem A7z {α:Type} {l tl:List α} {x d:α} {k:Nat} (h:l.drop k=x::tl):k<l.length∧l.getD k d=x∧l.drop (k+1)=tl:=by
 have hk:k<l.length:=by
  rcases Nat.lt_or_ge k l.length with h1 | h1
  ·exact h1
  ·rw [List.drop_of_length_le h1] at h;cases h
 rw [List.drop_eq_getElem_cons hk] at h
 obtain ⟨h1,h2⟩:=List.cons.inj h
 exact ⟨hk,by simp [List.getD_eq_getElem?_getD,hk,h1],h2⟩
theorem A4d (t:List (List Cel)) (i:Nat) (ag:List (List Cel)→Nat→List (List Cel)):∀ (tl own:List Cel) (k:Nat),(t.getD i []).drop k=tl→k≤(t.getD i []).length→own=(List.range k).map (A2f (t.getD i []))++tl →
  G3 t i ag tl own k=ag (t.set i (A0t (t.getD i []))) (i+1)
 | [],own,k,h,hkl,ho=>by
  have hk:(t.getD i []).length≤k:=by simpa using h
  simp only [G3]
  rw [ho,List.append_nil]
  rw [show k=(t.getD i []).length by omega];rfl
 | x::tl,own,k,h,hkl,ho=>by
  obtain ⟨hk,hx,h2⟩:=A7z (d:=Cel.zero) h
  simp only [G3]
  have e:(((decide (x.wide=1))&&((decide (((k:Int)+1)=((t.getD i []).length:Int)))||(!decide (((t.getD i []).getD (k+1) Cel.zero).wide=2))))||((decide (x.wide=2))&&((decide ((k:Int)=0))||(!decide (((t.getD i []).getD (k - 1) Cel.zero).wide=1)))))=A1e (t.getD i []) k:=by unfold A1e;rw [hx]
  rw [e]
  have hl:((List.range k).map (A2f (t.getD i []))).length=k:=by simp
  cases ha:A1e (t.getD i []) k with
  | true =>
   rw [cond_true]
   refine A4d t i ag tl _ (k+1) h2 (by omega) ?_
   rw [ho,List.set_append,if_neg (by rw [hl];omega),hl,Nat.sub_self,List.set_cons_zero,List.range_succ,List.map_append,List.map_singleton,List.append_assoc]
   congr 1
   unfold A2f;rw [ha,hx];rfl
  | false =>
   rw [cond_false]
   refine A4d t i ag tl _ (k+1) h2 (by omega) ?_
   rw [ho,List.range_succ,List.map_append,List.map_singleton,List.append_assoc]
   congr 1
   unfold A2f;rw [ha,hx];rfl
theorem A8c:∀ (tl t:List (List Cel)) (i:Nat),t.length=i+tl.length→G4 tl t i=t.take i++(t.drop i).map A0t
 | [],t,i,h=>by simp only [G4];rw [List.take_of_length_le (by simp at h;omega),List.drop_of_length_le (by simp at h;omega)];simp
 | _::tl,t,i,h=>by
  have hi:i<t.length:=by simp at h;omega
  simp only [G4,H3,P2]
  rw [A4d t i _ (t.getD i []) (t.getD i []) 0 rfl (Nat.zero_le _) rfl,A8c tl _ (i+1) (by simp at h ⊢;omega),List.take_add_one,List.take_set_of_le (Nat.le_refl _),List.getElem?_set_self hi,List.drop_set_of_lt (by omega),List.drop_eq_getElem_cons hi]
  have:t.getD i []=t[i]:=by simp [List.getD_eq_getElem?_getD,hi]
  rw [this];simp only [Option.toList_some,List.map_cons,List.append_assoc,List.singleton_append]
theorem B3z (c:FrmC) (rows:List (List Cel)):J6 c rows=rows.map A0t:=by
 unfold J6;rw [A8c rows rows 0 (by simp)];simp
def prv (l:List Cel) (last:Cel) (k:Nat):Cel:=if k=0 then last else l.getD (k - 1) Cel.zero
def B2s (l:List Cel) (last:Cel) (k:Nat):Prop:=I6 (l.getD k Cel.zero)=0∧((prv l last k).wide=1 ↔ (l.getD k Cel.zero).wide=2)∧((l.getD k Cel.zero).wide=2→(l.getD k Cel.zero).sty=(prv l last k).sty)
theorem B2e (x:Cel) (l:List Cel) (last:Cel) (k:Nat):prv (x::l) last (k+1)=prv l x k:=by
 unfold prv
 rw [if_neg (by omega)]
 cases k with
 | zero=>rfl
 | succ k=>rw [if_neg (by omega)];rfl
theorem B0s:∀ (l:List Cel) (t:Nat) (last:Cel),Q2 l t last=0 ↔ (∀ k,k<l.length→B2s l last k)∧(prv l last l.length).wide≠1
 | [],t,last=>by
  simp only [Q2,List.length_nil,prv,if_true]
  by_cases h:last.wide=1<;>simp [h]
 | x::l,t,last=>by
  simp only [Q2]
  have ih:=B0s l (t+1) x
  have hk:(∀ k,k<(x::l).length→B2s (x::l) last k) ↔ B2s (x::l) last 0∧∀ k,k<l.length→B2s l x k:=by
   constructor
   ·intro h
    refine ⟨h 0 (by simp),fun k hk=>?_⟩
    have:=h (k+1) (by simpa using hk)
    unfold B2s at this ⊢
    rw [B2e] at this;exact this
   ·intro ⟨h0,h⟩ k hk
    cases k with
    | zero=>exact h0
    | succ k =>
     have:=h k (by simpa using hk)
     unfold B2s at this ⊢
     rw [B2e];exact this
  rw [hk,List.length_cons,B2e]
  have h0:B2s (x::l) last 0 ↔ I6 x=0∧(last.wide=1 ↔ x.wide=2)∧(x.wide=2→x.sty=last.sty):=Iff.rfl
  rw [h0]
  by_cases c1:I6 x=0
  ·by_cases c2:(last.wide=1 ↔ x.wide=2)
   ·by_cases c3:x.wide=2→x.sty=last.sty
    ·rw [and_assoc,← ih]
     have e2:((decide (last.wide=1)) == (decide (x.wide=2)))=true:=by simp [c2]
     have e3:((decide (x.wide=2))&&(!(decide (x.sty=last.sty))))=false:=by
      by_cases q:x.wide=2
      ·simp [q,c3 q]
      ·simp [q]
     rw [e2,e3,decide_eq_true c1]
     simp only [Bool.not_true,Bool.or_self,cond_false]
     exact ⟨fun h=>⟨⟨c1,c2,c3⟩,h⟩,fun h=>h.2⟩
    ·have e3:((decide (x.wide=2))&&(!(decide (x.sty=last.sty))))=true:=by
      rw [Classical.not_imp] at c3;simp [c3.1,c3.2]
     rw [e3,Bool.or_true]
     exact ⟨fun h=>(by cases h),fun h=>absurd h.1.1.2.2 c3⟩
   ·have e2:((decide (last.wide=1)) == (decide (x.wide=2)))=false:=by
     by_cases q:last.wide=1<;>by_cases p:x.wide=2<;>simp_all
    rw [e2]
    simp only [Bool.not_false,Bool.or_true,Bool.true_or,cond_true]
    exact ⟨fun h=>(by cases h),fun h=>absurd h.1.1.2.1 c2⟩
  ·rw [decide_eq_false c1]
   simp only [Bool.not_false,Bool.true_or,cond_true]
   exact ⟨fun h=>(by cases h),fun h=>absurd h.1.1.1 c1⟩
theorem B0m (l:List Cel) (b:Bool):F7 l b=0 ↔ (2≤l.length∧l.length≤80)∧(∀ k,k<l.length→B2s l Cel.zero k)∧(prv l Cel.zero l.length).wide≠1:=by
 unfold F7
 by_cases h:2≤l.length∧l.length≤80
 ·rw [decide_eq_false (by omega),decide_eq_false (by omega)]
  exact (B0s l 0 Cel.zero).trans ⟨fun k=>⟨h,k⟩,fun k=>k.2⟩
 ·have:((decide ((l.length:Int)<2))||(decide ((80:Int)<(l.length:Int))))=true:=by simp only [Bool.or_eq_true,decide_eq_true_eq];omega
  rw [this]
  exact ⟨fun h=>(by cases h),fun k=>absurd k.1 h⟩
def A5f (l:List Cel):Prop:=(∀ k,k<l.length→I6 (l.getD k Cel.zero)=0)∧∀ k,k+1<l.length→(l.getD k Cel.zero).wide=1→(l.getD (k+1) Cel.zero).wide=2→(l.getD (k+1) Cel.zero).sty=(l.getD k Cel.zero).sty
theorem C4u {x:Cel} (h:I6 x=0):(x.wide=0∨x.wide=1∨x.wide=2)∧D4 x.sty=0:=by
 unfold I6 at h
 by_cases hs:D4 x.sty=0
 ·refine ⟨?_,hs⟩
  rw [decide_eq_true hs] at h
  cases hh:A0p x with
  | true =>
   unfold A0p at hh
   have:=of_decide_eq_true hh
   rw [this];exact .inr (.inr rfl)
  | false =>
   rw [hh] at h
   by_cases c1:0≤x.wide
   ·by_cases c2:x.wide≤1
    ·omega
    ·rw [decide_eq_false c2] at h;simp at h
   ·rw [decide_eq_false c1] at h;simp at h
 ·rw [decide_eq_false hs] at h;simp at h
theorem B8j {s:Sty} (h:D4 s=0):I6 {Cel.zero with base:=32,sty:=s}=0:=by
 unfold I6
 rw [show D4 ({Cel.zero with base:=32,sty:=s}:Cel).sty=0 from h,show F0 ({Cel.zero with base:=32,sty:=s}:Cel).base=1 from (by decide +kernel:F0 32=1),show O5 ({Cel.zero with base:=32,sty:=s}:Cel).marks=true from (by decide +kernel:O5 Cel.zero.marks=true)]
 simp [Cel.zero,IntKind.wrap,IntKind.bits,IntKind.signed]
theorem A9e (l:List Cel) (k:Nat):(A2f l k).wide=if A1e l k then 0 else (l.getD k Cel.zero).wide:=by
 unfold A2f;cases A1e l k<;>rfl
theorem C5b {l:List Cel} (hl:2≤l.length∧l.length≤80) (hg:A5f l) (b:Bool):F7 (A0t l) b=0:=by
 have hw:=fun k hk=>(C4u (hg.1 k hk)).1
 have p1:∀ k,k<l.length→((A2f l k).wide=1 ↔ (l.getD k Cel.zero).wide=1∧k+1<l.length∧(l.getD (k+1) Cel.zero).wide=2):=fun k hk=>by
  rw [A9e]
  have hc:((k:Int)+1=(l.length:Int)) ↔ k+1=l.length:=by omega
  have hd:k+1<l.length ↔ ¬ k+1=l.length:=by omega
  unfold A1e
  rw [hd]
  generalize (l.getD k Cel.zero).wide=a
  generalize (l.getD (k+1) Cel.zero).wide=c
  generalize (l.getD (k - 1) Cel.zero).wide=d
  by_cases a1:a=1
  ·subst a1
   by_cases a2:k+1=l.length<;>by_cases a3:c=2<;>simp [hc,a2,a3]
  ·simp only [a1,decide_false,Bool.false_and,Bool.false_or,false_and,iff_false]
   split
   ·decide
   ·exact a1
 have p2:∀ k,k<l.length→((A2f l k).wide=2 ↔ (l.getD k Cel.zero).wide=2∧k≠0∧(l.getD (k - 1) Cel.zero).wide=1):=fun k hk=>by
  rw [A9e]
  have hc:((k:Int)=0) ↔ k=0:=by omega
  unfold A1e
  generalize (l.getD k Cel.zero).wide=a
  generalize (l.getD (k+1) Cel.zero).wide=c
  generalize (l.getD (k - 1) Cel.zero).wide=d
  by_cases a1:a=2
  ·subst a1
   by_cases a2:k=0<;>by_cases a3:d=1<;>simp [hc,a2,a3]
  ·simp only [a1,decide_false,Bool.false_and,Bool.or_false,false_and,iff_false]
   split
   ·decide
   ·exact a1
 have p3:∀ k,k<l.length→(A2f l k).wide=1∨(A2f l k).wide=2→A2f l k=l.getD k Cel.zero:=fun k hk h=>by
  rw [A9e] at h
  unfold A2f
  cases ha:A1e l k with
  | true=>rw [ha] at h;simp at h
  | false=>rfl
 have pp:∀ k,k<l.length→k≠0→prv (A0t l) Cel.zero k=A2f l (k - 1):=fun k hk h0=>by
  unfold prv;rw [if_neg h0,A2z l (by omega)]
 refine (B0m _ b).2 ⟨by rw [A3h];exact hl,fun k hk=>?_,?_⟩
 ·rw [A3h] at hk
  unfold B2s
  rw [A2z l hk]
  refine ⟨?_,?_,fun h2=>?_⟩
  ·unfold A2f
   cases A1e l k with
   | true=>exact B8j (C4u (hg.1 k hk)).2
   | false=>exact hg.1 k hk
  ·by_cases h0:k=0
   ·subst h0
    rw [show prv (A0t l) Cel.zero 0=Cel.zero from rfl,p2 0 hk]
    simp [Cel.zero]
   ·rw [pp k hk h0,p1 (k - 1) (by omega),p2 k hk,show k - 1+1=k by omega]
    exact ⟨fun h=>⟨h.2.2,h0,h.1⟩,fun h=>⟨h.2.2,hk,h.1⟩⟩
  ·obtain ⟨q1,q2,q3⟩:=(p2 k hk).1 h2
   rw [pp k hk q2,p3 k hk (.inr h2),p3 (k - 1) (by omega) (.inl ((p1 (k - 1) (by omega)).2 ⟨q3,by omega,by rw [show k - 1+1=k by omega];exact q1⟩))]
   have:=hg.2 (k - 1) (by omega) q3 (by rw [show k - 1+1=k by omega];exact q1)
   rw [show k - 1+1=k by omega] at this;exact this
 ·rw [A3h]
  unfold prv
  rw [if_neg (by omega),A2z l (by omega)]
  intro h
  obtain ⟨_,h2,_⟩:=(p1 _ (by omega)).1 h
  omega
theorem B8w {l:List Cel} {b:Bool} (h:F7 l b=0):A5f l:=by
 obtain ⟨hl,hk,he⟩:=(B0m l b).1 h
 refine ⟨fun k h=>(hk k h).1,fun k h h1 h2=>?_⟩
 have:=(hk (k+1) h).2.2 h2
 rw [this];unfold prv;rw [if_neg (by omega)];rfl
theorem C1v {l:List Cel} {b:Bool} (h:F7 l b=0):A0t l=l:=by
 obtain ⟨hl,hk,he⟩:=(B0m l b).1 h
 apply List.ext_getElem? 
 intro k
 by_cases hl':k<l.length
 ·have e1:(A0t l)[k]?=some (A2f l k):=by simp [A0t,hl']
  have e2:l[k]?=some (l.getD k Cel.zero):=by simp [List.getD_eq_getElem?_getD,hl']
  rw [e1,e2]
  congr 1
  have ha:A1e l k=false:=by
   unfold A1e
   have o1:=hk k hl'
   unfold B2s at o1
   have n1:(l.getD k Cel.zero).wide=1→k+1<l.length∧(l.getD (k+1) Cel.zero).wide=2:=fun h1=>by
    have hlt:k+1<l.length:=by
     rcases Nat.lt_or_ge (k+1) l.length with q | q
     ·exact q
     ·exfalso;apply he;unfold prv;rw [if_neg (by omega),show l.length - 1=k by omega];exact h1
    refine ⟨hlt,((hk (k+1) hlt).2.1).1 ?_⟩
    unfold prv;rw [if_neg (by omega)];exact h1
   have n2:(l.getD k Cel.zero).wide=2→k≠0∧(l.getD (k - 1) Cel.zero).wide=1:=fun h2=>by
    have:=o1.2.1.2 h2
    unfold prv at this
    split at this
    ·simp [Cel.zero] at this
    ·exact ⟨by assumption,this⟩
   rw [Bool.or_eq_false_iff,Bool.and_eq_false_iff,Bool.and_eq_false_iff]
   constructor
   ·by_cases q:(l.getD k Cel.zero).wide=1
    ·obtain ⟨a,c⟩:=n1 q
     right;rw [decide_eq_false (by omega),decide_eq_true c];rfl
    ·left;exact decide_eq_false q
   ·by_cases q:(l.getD k Cel.zero).wide=2
    ·obtain ⟨a,c⟩:=n2 q
     right;rw [decide_eq_false (by omega),decide_eq_true c];rfl
    ·left;exact decide_eq_false q
  unfold A2f;rw [ha];rfl
 ·rw [List.getElem?_eq_none (by rw [A3h];omega),List.getElem?_eq_none (by omega)]
end Go.Proofs.YthcjfkljekdioaaGreatDoor
set_option linter.unusedVariables false
set_option linter.unusedSimpArgs false
namespace Go.Proofs.YthcjfkljekdioaaGreatDoor
open Go Go.Fen
theorem B5v {α:Type} {a b:List α} {d:α} {k:Nat} (h:k<a.length):(a++b).getD k d=a.getD k d:=by
 simp only [List.getD_eq_getElem?_getD,List.getElem?_append_left h]
theorem C4f {α:Type} {a b:List α} {d:α} {k:Nat}:(a++b).getD (a.length+k) d=b.getD k d:=by
 simp only [List.getD_eq_getElem?_getD];rw [List.getElem?_append_right (by omega),Nat.add_sub_cancel_left]
theorem B6y {α:Type} {a b:List α} {d:α} {k:Nat} (h:a.length≤k):(a++b).getD k d=b.getD (k - a.length) d:=by
 simp only [List.getD_eq_getElem?_getD];rw [List.getElem?_append_right h]
theorem gt {α:Type} {a:List α} {d:α} {k n:Nat} (h:k<n):(a.take n).getD k d=a.getD k d:=by
 simp only [List.getD_eq_getElem?_getD,List.getElem?_take_of_lt h]
theorem gdr {α:Type} {a:List α} {d:α} {k n:Nat}:(a.drop n).getD k d=a.getD (n+k) d:=by
 simp only [List.getD_eq_getElem?_getD,List.getElem?_drop]
theorem C0g {l:List Cel} (h:A5f l) (n:Nat):A5f (l.take n):=by
 refine ⟨fun k hk=>?_,fun k hk h1 h2=>?_⟩
 ·rw [List.length_take] at hk;rw [gt (by omega)];exact h.1 k (by omega)
 ·rw [List.length_take] at hk;rw [gt (by omega)] at h1 h2;rw [gt (by omega),gt (by omega)];exact h.2 k (by omega) h1 h2
theorem C0o {l:List Cel} (h:A5f l) (n:Nat):A5f (l.drop n):=by
 refine ⟨fun k hk=>?_,fun k hk h1 h2=>?_⟩
 ·rw [List.length_drop] at hk;rw [gdr];exact h.1 _ (by omega)
 ·rw [List.length_drop] at hk;rw [gdr] at h1 h2;rw [gdr,gdr,← Nat.add_assoc];exact h.2 _ (by omega) h1 (by rw [Nat.add_assoc];exact h2)
structure Pairs (b:List Cel):Prop where
 one:∀ k,k<b.length→(b.getD k Cel.zero).wide=1→k+1<b.length∧(b.getD (k+1) Cel.zero).wide=2
 two:∀ k,k<b.length→(b.getD k Cel.zero).wide=2→k≠0∧(b.getD (k - 1) Cel.zero).wide=1
theorem B6c {l:List Cel} {b:Bool} (h:F7 l b=0):Pairs l:=by
 obtain ⟨hl,hk,he⟩:=(B0m l b).1 h
 refine ⟨fun k h h1=>?_,fun k h h2=>?_⟩
 ·have hlt:k+1<l.length:=by
   rcases Nat.lt_or_ge (k+1) l.length with q | q
   ·exact q
   ·exfalso;apply he;unfold prv;rw [if_neg (by omega),show l.length - 1=k by omega];exact h1
  refine ⟨hlt,((hk (k+1) hlt).2.1).1 ?_⟩
  unfold prv;rw [if_neg (by omega)];exact h1
 ·have:=(hk k h).2.1.2 h2
  unfold prv at this
  split at this
  ·simp [Cel.zero] at this
  ·exact ⟨by assumption,this⟩
theorem B7g {a b:List Cel} (ha:A5f a) (hb:A5f b) (h:0<a.length→0<b.length→(a.getD (a.length - 1) Cel.zero).wide=1→(b.getD 0 Cel.zero).wide=2→False):A5f (a++b):=by
 refine ⟨fun k hk=>?_,fun k hk h1 h2=>?_⟩
 ·rw [List.length_append] at hk
  by_cases c:k<a.length
  ·rw [B5v c];exact ha.1 k c
  ·rw [B6y (by omega)];exact hb.1 _ (by omega)
 ·rw [List.length_append] at hk
  by_cases c:k+1<a.length
  ·rw [B5v c] at h2 ⊢;rw [B5v (show k<a.length by omega)] at h1 ⊢;exact ha.2 k c h1 h2
  ·by_cases c2:k<a.length
   ·rw [B5v c2] at h1
    rw [B6y (show a.length≤k+1 by omega),show k+1 - a.length=0 by omega] at h2
    exact (h (by omega) (by omega) (by rw [show a.length - 1=k by omega];exact h1) h2).elim
   ·rw [B6y (show a.length≤k by omega)] at h1 ⊢
    rw [B6y (show a.length≤k+1 by omega),show k+1 - a.length=k - a.length+1 by omega] at h2 ⊢
    exact hb.2 _ (by omega) h1 h2
theorem B7k {a b:List Cel} (ha:A5f a) (hb:A5f b) (hp:Pairs b):A5f (a++b):=B7g ha hb fun _ h0 _ h2=>(hp.two 0 h0 h2).1 rfl
theorem C0h {a b c:List Cel} (ha:A5f a) (hb:A5f b) (hc:A5f c) (hp:Pairs b) (h0:0<b.length):A5f (a++b++c):=by
 refine B7g (B7k ha hb hp) hc fun _ _ h1 _=>?_
 rw [List.length_append,show a.length+b.length - 1=a.length+(b.length - 1) by omega,C4f] at h1
 have:=(hp.one _ (show b.length - 1<b.length by omega) h1).1;omega
theorem C4l {a b c:List Cel} (hp:Pairs b) {k:Nat} (hk:k<b.length):A2f (a++b++c) (a.length+k)=b.getD k Cel.zero:=by
 have e0:(a++b++c).getD (a.length+k) Cel.zero=b.getD k Cel.zero:=by rw [List.append_assoc,C4f,B5v hk]
 have ha:A1e (a++b++c) (a.length+k)=false:=by
  unfold A1e
  rw [e0,Bool.or_eq_false_iff,Bool.and_eq_false_iff,Bool.and_eq_false_iff]
  constructor
  ·by_cases q:(b.getD k Cel.zero).wide=1
   ·obtain ⟨h1,h2⟩:=hp.one k hk q
    right
    rw [show a.length+k+1=a.length+(k+1) by omega,List.append_assoc a b c,C4f,B5v h1,decide_eq_true h2,decide_eq_false (by simp only [List.length_append];omega)];rfl
   ·left;exact decide_eq_false q
  ·by_cases q:(b.getD k Cel.zero).wide=2
   ·obtain ⟨h1,h2⟩:=hp.two k hk q
    right
    rw [show a.length+k - 1=a.length+(k - 1) by omega,List.append_assoc a b c,C4f,B5v (show k - 1<b.length by omega),decide_eq_true h2,decide_eq_false (by omega)];rfl
   ·left;exact decide_eq_false q
 unfold A2f;rw [ha,e0];rfl
theorem C2b {a b:List Cel} (hl:a.length=b.length) (h:∀ k,k<b.length→a.getD k Cel.zero=b.getD k Cel.zero):a=b:=by
 apply List.ext_getElem hl
 intro k h1 h2
 have:=h k h2
 simpa [List.getD_eq_getElem?_getD,h1,h2] using this
theorem C3h {a b c:List Cel} (hp:Pairs b):((A0t (a++b++c)).drop a.length).take b.length=b:=by
 refine C2b (by rw [List.length_take,List.length_drop,A3h];simp only [List.length_append];omega) fun k hk=>?_
 rw [gt hk,gdr,A2z _ (by simp only [List.length_append];omega),C4l hp hk]
theorem C1l {l:List Cel} {k:Nat} (h:(l.getD k Cel.zero).wide=0):A2f l k=l.getD k Cel.zero:=by
 unfold A2f A1e;rw [h];rfl
theorem A9s (f:FrmC):∀ (rows:List (List Cel)) (t:Nat),(∀ r ∈ rows,(r.length:Int)=f.cols∧F7 r false=0)→H5 f rows true t=0
 | [],t,h=>rfl
 | r::rows,t,h=>by
  obtain ⟨h1,h2⟩:=h r (List.mem_cons_self ..)
  simp only [H5]
  rw [decide_eq_true h1,h2]
  exact A9s f rows (t+1) fun x hx=>h x (List.mem_cons_of_mem _ hx)
theorem A4r {f:FrmC} {rows:List (List Cel)} (h:FOk f rows):B6 f rows=0:=by
 unfold B6
 rw [decide_eq_true h.hc.1,decide_eq_true h.hc.2,decide_eq_true h.hr.1,decide_eq_true h.hr.2,decide_eq_true h.h1.1,decide_eq_true h.h1.2,decide_eq_true h.h2.1,decide_eq_true h.h2.2,decide_eq_true h.sh.1,decide_eq_true h.sh.2,decide_eq_true h.ti]
 exact A9s f rows 0 h.ro
theorem FOk.row {f:FrmC} {rows:List (List Cel)} (h:FOk f rows) {i:Nat} (hi:i<rows.length):((rows.getD i []).length:Int)=f.cols∧F7 (rows.getD i []) false=0:=by
 have:rows.getD i []=rows[i]:=by simp [List.getD_eq_getElem?_getD,hi]
 rw [this];exact h.ro _ (List.getElem_mem hi)
theorem B8u {f:FrmC} {rows:List (List Cel)} {r c n m:Int} (h:0≤r∧1≤n∧r+n≤rows.length∧0≤c∧2≤m∧c+m≤f.cols):L6 f rows r c n m=true:=by
 unfold L6;simp only [Bool.and_eq_true,decide_eq_true_eq];omega
def A5v (rows:List (List Cel)) (r c m:Int) (i:Nat):List Cel:=((rows.getD (r.toNat+i) []).drop c.toNat).take m.toNat
def V6 (fr gr:List (List Cel)) (p:Plc) (m:Int) (i:Nat):List Cel :=
 if p.row≤i∧(i:Int)<p.row+gr.length then ((fr.getD i []).take p.col.toNat)++(gr.getD (i - p.row.toNat) [])++((fr.getD i []).drop (p.col.toNat+m.toNat)) else fr.getD i []
theorem C0l {f:FrmC} {rows:List (List Cel)} {r c n m:Int} (h:FOk f rows) (hl:0≤r∧1≤n∧r+n≤rows.length∧0≤c∧2≤m∧c+m≤f.cols) :
  J6 ({f with cols:=m}) (J7 n f rows r c n m)=(List.range n.toNat).map (fun i=>A0t (A5v rows r c m i)):=by
 rw [B3z,Y5,List.map_map]
 refine List.map_congr_left fun i hi=>?_
 rw [List.mem_range] at hi
 simp only [Function.comp_apply]
 unfold Q5 A5v
 rw [show ((i:Nat):Int).toNat=i by omega,Nat.add_sub_cancel_left]
theorem B8v {f:FrmC} {rows:List (List Cel)} {r c n m:Int} (h:FOk f rows) (hl:0≤r∧1≤n∧r+n≤rows.length∧0≤c∧2≤m∧c+m≤f.cols) :
  O8 f rows r c n m=(if r≤f.cursor.row∧f.cursor.row<r+n∧c≤f.cursor.col∧f.cursor.col<c+m then {f with cols:=m,cursor:=⟨f.cursor.row - r,f.cursor.col - c⟩} else {f with cols:=m,cursor:=Plc.zero,visible:=false},(List.range n.toNat).map (fun i=>A0t (A5v rows r c m i)),0):=by
 have hr:=h.hr
 have hc:=h.hc
 have h1:=h.h1
 have h2:=h.h2
 unfold O8 H3
 rw [A4r h,B8u hl]
 simp only [decide_true,Bool.not_true,cond_false]
 rw [C0l h hl,wr6 (show -1000000≤f.cursor.row - r∧f.cursor.row - r≤1000000 by omega),wr6 (show -1000000≤f.cursor.col - c∧f.cursor.col - c≤1000000 by omega)]
 by_cases q:r≤f.cursor.row∧f.cursor.row<r+n∧c≤f.cursor.col∧f.cursor.col<c+m
 ·rw [if_pos q,decide_eq_true (by omega),decide_eq_true (by omega),decide_eq_true (by omega),decide_eq_true (by omega)];rfl
 ·rw [if_neg q]
  have:((((decide ((0:Int)≤f.cursor.row - r))&&(decide (f.cursor.row - r<n)))&&(decide ((0:Int)≤f.cursor.col - c)))&&(decide (f.cursor.col - c<m)))=false:=by
   rw [← Bool.not_eq_true];simp only [Bool.and_eq_true,decide_eq_true_eq];omega
  rw [this];rfl
theorem C1c {f:FrmC} {fr:List (List Cel)} {g:FrmC} {gr:List (List Cel)} {p:Plc} (hf:FOk f fr) (hg:FOk g gr) (hl:0≤p.row∧p.row+gr.length≤fr.length∧0≤p.col∧p.col+g.cols≤f.cols) :
  J6 f (J0 fr.length p g gr f fr)=(List.range fr.length).map (fun i=>A0t (V6 fr gr p g.cols i)):=by
 rw [B3z,X5,List.map_map,show ((fr.length:Nat):Int).toNat=fr.length by omega]
 refine List.map_congr_left fun i hi=>?_
 rw [List.mem_range] at hi
 simp only [Function.comp_apply]
 unfold R5 V6 H3
 rw [show ((i:Nat):Int).toNat=i by omega]
 by_cases q:p.row≤i∧(i:Int)<p.row+gr.length
 ·rw [if_pos q,decide_eq_false (by omega),decide_eq_false (by omega)]
  simp only [Bool.or_self,cond_false,L5,List.flatten_cons,List.flatten_nil,List.append_nil,List.append_assoc]
 ·rw [if_neg q]
  have:((decide (((i:Int) - p.row)<0))||(decide ((gr.length:Int)≤((i:Int) - p.row))))=true:=by
   simp only [Bool.or_eq_true,decide_eq_true_eq];omega
  rw [this];rfl
theorem B8o {f:FrmC} {fr:List (List Cel)} {g:FrmC} {gr:List (List Cel)} {p:Plc} (hf:FOk f fr) (hg:FOk g gr) (hl:0≤p.row∧p.row+gr.length≤fr.length∧0≤p.col∧p.col+g.cols≤f.cols) :
  P4 f fr g gr p=(f,(List.range fr.length).map (fun i=>A0t (V6 fr gr p g.cols i)),0):=by
 unfold P4 H3
 have h1:=hg.hr
 have h2:=hg.hc
 rw [A4r hf,A4r hg,B8u (f:=f) (rows:=fr) ⟨hl.1,h1.1,hl.2.1,hl.2.2.1,h2.1,hl.2.2.2⟩]
 simp only [decide_true,Bool.not_true,cond_false]
 rw [C1c hf hg hl]
theorem B9d {f:FrmC} {fr:List (List Cel)} {g:FrmC} {gr:List (List Cel)} {p:Plc} (h:¬ (B6 f fr=0∧B6 g gr=0∧L6 f fr p.row p.col gr.length g.cols=true)):(P4 f fr g gr p).2.2=330∨(P4 f fr g gr p).2.2=2:=by
 unfold P4
 by_cases c1:B6 f fr=0
 ·by_cases c2:B6 g gr=0
  ·have c3:L6 f fr p.row p.col gr.length g.cols=false:=by
    cases q:L6 f fr p.row p.col gr.length g.cols with
    | false=>rfl
    | true=>exact absurd ⟨c1,c2,q⟩ h
   rw [c1,c2,c3];right;rfl
  ·left;rw [c1,B3u c2];rfl
 ·left;rw [B3u c1];rfl
theorem B2d {f:FrmC} {fr:List (List Cel)} {g:FrmC} {gr:List (List Cel)} {p:Plc} (hf:FOk f fr) (hg:FOk g gr) (hl:0≤p.row∧p.row+gr.length≤fr.length∧0≤p.col∧p.col+g.cols≤f.cols) {i:Nat} (hi:i<fr.length):((V6 fr gr p g.cols i).length:Int)=f.cols:=by
 have h1:=(hf.row hi).1
 have hc:=hg.hc
 unfold V6
 split
 ·have h2:=(hg.row (i:=i - p.row.toNat) (by omega)).1
  simp only [List.length_append,List.length_take,List.length_drop];omega
 ·exact h1
theorem B7b {f:FrmC} {fr:List (List Cel)} {g:FrmC} {gr:List (List Cel)} {p:Plc} (hf:FOk f fr) (hg:FOk g gr) (hl:0≤p.row∧p.row+gr.length≤fr.length∧0≤p.col∧p.col+g.cols≤f.cols) {i:Nat} (hi:i<fr.length):A5f (V6 fr gr p g.cols i):=by
 have h1:=B8w (hf.row hi).2
 have hc:=hg.hc
 unfold V6
 split
 ·have h2:=hg.row (i:=i - p.row.toNat) (by omega)
  exact C0h (C0g h1 _) (B8w h2.2) (C0o h1 _) (B6c h2.2) (by omega)
 ·exact h1
theorem C1w {f:FrmC} {fr:List (List Cel)} {g:FrmC} {gr:List (List Cel)} {p:Plc} (hf:FOk f fr) (hg:FOk g gr) (hl:0≤p.row∧p.row+gr.length≤fr.length∧0≤p.col∧p.col+g.cols≤f.cols) :
  FOk f ((List.range fr.length).map (fun i=>A0t (V6 fr gr p g.cols i))):=by
 have hc:=hf.hc
 refine ⟨hf.hc,by simpa using hf.hr,by simpa using hf.h1,hf.h2,hf.sh,hf.ti,fun r hr=>?_⟩
 obtain ⟨i,hi,rfl⟩:=List.mem_map.1 hr
 rw [List.mem_range] at hi
 have h1:=B2d hf hg hl hi
 exact ⟨by rw [A3h];exact h1,C5b (by omega) (B7b hf hg hl hi) _⟩
theorem B3r {α:Type} (fn:Nat→List α) {n i:Nat} (h:i<n):((List.range n).map fn).getD i []=fn i:=by
 simp [List.getD_eq_getElem?_getD,h]
theorem B2r {α:Type} (l:List (List α)):(List.range l.length).map (fun i=>l.getD i [])=l:=by
 apply List.ext_getElem (by simp)
 intro k h1 h2
 simp [List.getD_eq_getElem?_getD,h2]
theorem B6o {f:FrmC} {fr:List (List Cel)} {g:FrmC} {gr:List (List Cel)} {p:Plc} (hf:FOk f fr) (hg:FOk g gr) (hl:0≤p.row∧p.row+gr.length≤fr.length∧0≤p.col∧p.col+g.cols≤f.cols) :
  (List.range gr.length).map (fun i=>A0t (A5v ((List.range fr.length).map (fun i=>A0t (V6 fr gr p g.cols i))) p.row p.col g.cols i))=gr:=by
 refine Eq.trans (List.map_congr_left fun i hi=>?_) (B2r gr)
 rw [List.mem_range] at hi
 obtain ⟨h1,h2⟩:=hg.row hi
 have hfr:=(hf.row (i:=p.row.toNat+i) (by omega)).1
 have hc:=hg.hc
 have e:A5v ((List.range fr.length).map (fun i=>A0t (V6 fr gr p g.cols i))) p.row p.col g.cols i=gr.getD i []:=by
  unfold A5v
  rw [B3r _ (by omega)]
  unfold V6
  rw [if_pos (by omega),show p.row.toNat+i - p.row.toNat=i by omega]
  have:=C3h (a:=(fr.getD (p.row.toNat+i) []).take p.col.toNat) (c:=(fr.getD (p.row.toNat+i) []).drop (p.col.toNat+g.cols.toNat)) (B6c h2)
  rw [List.length_take,Nat.min_eq_left (by omega),show (gr.getD i []).length=g.cols.toNat by omega] at this
  exact this
 rw [e];exact C1v h2
theorem B8g {f:FrmC} {fr:List (List Cel)} {g:FrmC} {gr:List (List Cel)} {p:Plc} {R:FrmC×List (List Cel)×Int} (hR:P4 f fr g gr p=R) (h:R.2.2=0) :
  (fr.length≤40∧gr.length≤40∧f.cols≤80∧g.cols≤80∧0≤p.row∧p.row+gr.length≤fr.length∧0≤p.col∧p.col+g.cols≤f.cols∧2≤g.cols)∧(∀ i,i<fr.length→((fr.getD i []).length:Int)=f.cols)∧(∀ i,i<gr.length→((gr.getD i []).length:Int)=g.cols) ∧
  R.2.1.length=fr.length∧(∀ i,i<fr.length→((R.2.1.getD i []).length:Int)=f.cols)∧(O8 R.1 R.2.1 p.row p.col gr.length g.cols).2.1=gr∧R.1=f:=by
 by_cases hq:B6 f fr=0∧B6 g gr=0∧L6 f fr p.row p.col gr.length g.cols=true
 ·obtain ⟨c1,c2,c3⟩:=hq
  have hf:=A7a c1
  have hg:=A7a c2
  obtain ⟨l1,l2,l3,l4,l5,l6⟩:=B0l c3
  have hl:0≤p.row∧p.row+gr.length≤fr.length∧0≤p.col∧p.col+g.cols≤f.cols:=⟨l1,l3,l4,l6⟩
  have hlen:((List.range fr.length).map (fun i=>A0t (V6 fr gr p g.cols i))).length=fr.length:=by simp
  have a1:=hf.hr
  have a2:=hf.hc
  have a3:=hg.hr
  have a4:=hg.hc
  have hP:=C1w hf hg hl
  rw [B8o hf hg hl] at hR
  subst hR
  refine ⟨⟨by omega,by omega,a2.2,a4.2,l1,l3,l4,l6,l5⟩,fun i hi=>(hf.row hi).1,fun i hi=>(hg.row hi).1,hlen,fun i hi=>(hP.row (by rw [hlen];exact hi)).1,?_,rfl⟩
  show (O8 f ((List.range fr.length).map (fun i=>A0t (V6 fr gr p g.cols i))) p.row p.col gr.length g.cols).2.1=gr
  rw [B8v hP (by rw [hlen];exact ⟨l1,l2,l3,l4,l5,l6⟩),show ((gr.length:Nat):Int).toNat=gr.length by omega,B6o hf hg hl]
 ·have:=B9d hq
  rw [hR] at this;omega
end Go.Proofs.YthcjfkljekdioaaGreatDoor
