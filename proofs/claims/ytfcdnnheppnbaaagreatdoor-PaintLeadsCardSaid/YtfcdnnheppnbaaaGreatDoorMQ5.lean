import Derived.Test.YtfcdnnheppnbaaaGreatDoorProg
import Derived.Test.YtfcdnnheppnbaaaGreatDoorMQ4
import Derived.Test.YtfcdnnheppnbaaaGreatDoorMA2
import Derived.Test.YtfcdnnheppnbaaaGreatDoorMB1
import Derived.Test.YtfcdnnheppnbaaaGreatDoorMA3
import Derived.Test.YtfcdnnheppnbaaaGreatDoorMB2
import Derived.Test.YtfcdnnheppnbaaaGreatDoorMB3
import Derived.Test.YtfcdnnheppnbaaaGreatDoorMQ1
import Derived.Test.YtfcdnnheppnbaaaGreatDoorMQ2
import Derived.Test.YtfcdnnheppnbaaaGreatDoorMQ3
set_option linter.unusedVariables false
set_option linter.unusedSimpArgs false
set_option linter.unnecessarySimpa false
set_option maxRecDepth 100000
namespace Go.Proofs.YtfcdnnheppnbaaaGreatDoor
open Go Go.Fen
theorem D0k:∀ (l:List Cel) (t:Nat) (last:Cel),O1 l t last=0→(∀ c ∈ l,F5 c=0)∧(∀ i<l.length,((last::l).getD i Cel.zero).wide=1 ↔ (l.getD i Cel.zero).wide=2)∧((last::l).getD l.length Cel.zero).wide≠1
 | [],t,last,h=>by
  rw [O1] at h
  refine ⟨fun c a=>(by cases a),fun i b=>(by cases b),fun e=>?_⟩
  have d:last.wide=1:=e
  rw [decide_eq_true d] at h;exact absurd (show (220:Int)=0 from h) ozw
 | x::l,t,last,h=>by
  rw [O1] at h
  cases hb:(((!decide ((F5 x)=0))||(!((decide (last.wide=1)) == (decide (x.wide=2)))))||((decide (x.wide=2))&&(!(decide (x.sty=last.sty))))) with
  | true=>rw [hb] at h;exact absurd (show (220:Int)=0 from h) ozw
  | false =>
   rw [hb] at h
   obtain ⟨f,k,j⟩:=D0k l (t+1) x h
   simp only [Bool.or_eq_false_iff,Bool.not_eq_false',decide_eq_true_eq,beq_iff_eq] at hb
   have g:last.wide=1 ↔ x.wide=2:=decide_eq_decide.1 hb.1.2
   refine ⟨fun c a=>?_,fun i b=>?_,j⟩
   ·rcases List.mem_cons.1 a with rfl | a
    ·exact hb.1.1
    ·exact f c a
   ·cases i with
    | zero=>exact g
    | succ i=>exact k i (by simp only [List.length_cons] at b;omega)
structure RowV (x:List Cel):Prop where
 len:2≤x.length∧x.length≤80
 ok:∀ c ∈ x,F5 c=0
 wide:∀ c ∈ x,0≤c.wide∧c.wide≤2
 next:∀ i<x.length,(x.getD i Cel.zero).wide=1→i+1<x.length∧(x.getD (i+1) Cel.zero).wide=2
 prev:∀ i<x.length,(x.getD i Cel.zero).wide=2→0<i∧(x.getD (i - 1) Cel.zero).wide=1
theorem F5g {x:List Cel} {w:Bool} (h:G5 x w=0):RowV x:=by
 have b:=Z0 h
 unfold G5 at h
 rw [show ((decide ((x.length:Int)<2))||(decide ((80:Int)<(x.length:Int))))=false by simp only [Bool.or_eq_false_iff,decide_eq_false_iff_not];omega,cond_false] at h
 obtain ⟨g,f,c⟩:=D0k x 0 Cel.zero h
 refine ⟨⟨b.1,b.2.1⟩,g,b.2.2,fun i d a=>?_,fun i d a=>?_⟩
 ·by_cases hn:i+1<x.length
  ·exact ⟨hn,(f (i+1) hn).1 a⟩
  ·have e:x.length=i+1:=by omega
   rw [e] at c;exact absurd a c
 ·have:=(f i d).2 a
  cases i with
  | zero=>exact absurd (show (0:Int)=1 from this) ozw
  | succ i=>exact ⟨Nat.succ_pos _,this⟩
def ext (c1:Int) (c2:List Cel):Nat→Prn→Prn
 | 0,r=>r
 | fu+1,r=>if r.til<c1∧c2.getD r.til.toNat Cel.zero=r.sign then ext c1 c2 fu {r with many:=r.many+1,til:=r.til+(1+r.sign.wide)} else r
structure RunB (c1:Int) (c2:List Cel):Prop where
 wide:∀ c ∈ c2,0≤c.wide∧c.wide≤2
 len:c2.length≤80
 lim:c1≤c2.length
theorem RowV.runB {x:List Cel} (h:RowV x) {c1:Int} (a:c1≤x.length):RunB c1 x:=⟨h.wide,h.len.2,a⟩
theorem C5u {c1:Int} {c2:List Cel} (b:RunB c1 c2) {r:Prn} (h:r.til<c1∧c2.getD r.til.toNat Cel.zero=r.sign) (c:0≤r.til):0≤r.sign.wide∧r.sign.wide≤2:=by
 have:=b.lim
 have a:r.til.toNat<c2.length:=by omega
 rw [← h.2,gdE a];exact b.wide _ (List.getElem_mem a)
theorem E7p {c1:Int} {c2:List Cel} (b:RunB c1 c2) (ag:Int→List Prn):∀ (a:Nat) (r:Prn),0≤r.til→0≤r.many→r.many≤r.til→r.til≤90→(c1 - r.til).toNat<a→R3 c1 c2 ag a r=ext c1 c2 a r::ag (ext c1 c2 a r).til
 | 0,r,_,_,_,_,h=>by omega
 | a+1,r,h0,hm,hmt,h9,h=>by
  rw [R3,ext]
  by_cases c:r.til<c1∧c2.getD r.til.toNat Cel.zero=r.sign
  ·have d:=C5u b c h0
   have:=b.lim
   have:=b.len
   rw [if_pos c,decide_eq_true c.1,decide_eq_true c.2,Bool.and_self,cond_true,wr6 (x:=1+r.sign.wide) opx,wr6 (x:=r.many+1) opx,wr6 (x:=r.til+(1+r.sign.wide)) opx]
   exact E7p b ag a _ (by show 0≤r.til+(1+r.sign.wide);omega) (by show 0≤r.many+1;omega) (by show r.many+1≤r.til+(1+r.sign.wide);omega) (by show r.til+(1+r.sign.wide)≤90;omega) (by show (c1 - (r.til+(1+r.sign.wide))).toNat<a;omega)
  ·rw [if_neg c,show (decide (r.til<c1)&&decide (c2.getD r.til.toNat Cel.zero=r.sign))=false by simp only [Bool.and_eq_false_iff,decide_eq_false_iff_not];exact Decidable.not_and_iff_or_not.1 c,cond_false]
def C0s (c2:List Cel) (t:Int):Prn:={Prn.zero with sign:=c2.getD t.toNat Cel.zero,at_:=t,til:=t}
def C6g (c1:Int) (c2:List Cel) (t:Int):Prn:=ext c1 c2 ((c1 - t).toNat+1) (C0s c2 t)
theorem E1b {c1:Int} {c2:List Cel} (b:RunB c1 c2):∀ (a:Nat) (r:Prn),0≤r.til→r.til≤(ext c1 c2 a r).til∧(ext c1 c2 a r).sign=r.sign∧(ext c1 c2 a r).at_=r.at_
 | 0,r,_=>⟨Int.le_refl _,rfl,rfl⟩
 | a+1,r,h0=>by
  rw [ext]
  by_cases c:r.til<c1∧c2.getD r.til.toNat Cel.zero=r.sign
  ·have f:=C5u b c h0
   rw [if_pos c]
   have d:=E1b b a {r with many:=r.many+1,til:=r.til+(1+r.sign.wide)} (by show 0≤r.til+(1+r.sign.wide);omega)
   refine ⟨?_,d.2⟩
   have e:r.til+(1+r.sign.wide)≤_:=d.1
   omega
  ·rw [if_neg c];exact ⟨Int.le_refl _,rfl,rfl⟩
theorem E1x {c1:Int} {c2:List Cel} (a:RunB c1 c2) {t:Int} (b:0≤t) (h:t<c1):t<(C6g c1 c2 t).til∧(C6g c1 c2 t).at_=t∧(C6g c1 c2 t).sign=c2.getD t.toNat Cel.zero:=by
 unfold C6g
 have c:(C0s c2 t).til<c1∧c2.getD (C0s c2 t).til.toNat Cel.zero=(C0s c2 t).sign:=⟨h,rfl⟩
 have e:=C5u a c b
 have d:=E1b a ((c1 - t).toNat+1) (C0s c2 t) b
 refine ⟨?_,d.2.2,d.2.1⟩
 rw [ext,if_pos c]
 have f:=E1b a ((c1 - t).toNat) {C0s c2 t with many:=(C0s c2 t).many+1,til:=(C0s c2 t).til+(1+(C0s c2 t).sign.wide)} (by show 0≤t+(1+(C0s c2 t).sign.wide);omega)
 exact Int.lt_of_lt_of_le (by show t<t+(1+(C0s c2 t).sign.wide);have:0≤(C0s c2 t).sign.wide:=e.1;omega) f.1
theorem D3x {c1:Int} {c2:List Cel} {a:Nat} {t:Int} (h:¬ t<c1):K3 c1 c2 a t=[]:=by
 cases a with
 | zero=>rfl
 | succ a=>rw [K3,decide_eq_false h,cond_false]
theorem D5k {c1:Int} {c2:List Cel} (a:RunB c1 c2) {c:Nat} {t:Int} (b:0≤t) (h:t<c1):K3 c1 c2 (c+1) t=C6g c1 c2 t::K3 c1 c2 c (C6g c1 c2 t).til:=by
 have:=a.lim
 have:=a.len
 rw [K3,decide_eq_true h,cond_true]
 exact E7p a _ _ (C0s c2 t) b (Int.le_refl 0) b (by show t≤90;omega) (Nat.lt_succ_self _)
theorem E2g {c1:Int} {c2:List Cel} (d:RunB c1 c2):∀ (b a:Nat) (t:Int),0≤t→(c1 - t).toNat<b→(c1 - t).toNat<a→K3 c1 c2 b t=K3 c1 c2 a t
 | 0,_,t,_,h,_=>by omega
 | _,0,t,_,_,h=>by omega
 | b+1,a+1,t,h0,h,h'=>by
  by_cases c:t<c1
  ·have:=E1x d h0 c
   rw [D5k d h0 c,D5k d h0 c,E2g d b a _ opx opx opx]
  ·rw [D3x c,D3x c]
def C1p (c1:Int) (c2:List Cel) (t:Int):List Prn:=K3 c1 c2 ((c1 - t).toNat+1) t
theorem D0o {c1:Int} {c2:List Cel} {t:Int} (h:¬ t<c1):C1p c1 c2 t=[]:=D3x h
theorem E0d {c1:Int} {c2:List Cel} (a:RunB c1 c2) {t:Int} (b:0≤t) (h:t<c1):C1p c1 c2 t=C6g c1 c2 t::C1p c1 c2 (C6g c1 c2 t).til:=by
 have:=E1x a b h
 unfold C1p
 rw [D5k a b h,E2g a _ ((c1 - (C6g c1 c2 t).til).toNat+1) _ opx opx (Nat.lt_succ_self _)]
abbrev E0g:=List Act×Sty×Int×Bool
abbrev D8t:=Int×List Act×Sty×Int
def bad (c:Int) (x:E0g):Bool:=((!x.2.2.2)||(!decide ((N8 x.1).2=0)))||(decide ((0:Int)≤c)&&decide (c≤((N8 x.1).1.length:Int)))
def sel (b:D8t) (x:E0g):D8t:=bif bad b.1 x then b else (((N8 x.1).1.length:Int),x.1,x.2.1,x.2.2.1)
def B1o:D8t:=(-1,[],⟨0,0,⟨0,0⟩,⟨0,0⟩,⟨0,0⟩⟩,0)
def cP (s:Sty) (r:Prn):E0g:=M7 s [] 0 r false
def cR (s:Sty) (r:Prn):E0g:=L5 s [] 0 r false
def cB (s:Sty) (r:Prn) (last:Bool):E0g:=M5 s [] 0 r last
def C1f (s:Sty) (r:Prn) (last:Bool):D8t:=sel (sel (sel B1o (cP s r)) (cR s r)) (cB s r last)
theorem E3i (x:E0g):bad (-1) x=(((!x.2.2.2)||(!decide ((N8 x.1).2=0)))||false):=rfl
theorem E9s (s:Sty) (pl:List Act) (pat:Int) (r:Prn) (last:Bool):P5 s pl pat r last=(pl++(C1f s r last).2.1,(C1f s r last).2.2.1,(C1f s r last).2.2.2):=by
 have d:M7 s pl pat r last=cP s r:=rfl
 have c:L5 s pl pat r last=cR s r:=rfl
 have f:M5 s pl pat r last=cB s r last:=rfl
 have g:∀ (p:D8t),M4 pl p.1 p.2.1 p.2.2.1 p.2.2.2=(pl++p.2.1,p.2.2.1,p.2.2.2):=fun p=>rfl
 have b:∀ (p:D8t),K9 s pl pat r last p.1 p.2.1 p.2.2.1 p.2.2.2=(pl++(sel p (cB s r last)).2.1,(sel p (cB s r last)).2.2.1,(sel p (cB s r last)).2.2.2):=fun p=>by
  unfold K9 C2
  rw [f]
  show (bif bad p.1 (cB s r last) then _ else _)=_
  unfold sel
  cases bad p.1 (cB s r last)<;>rfl
 have a:∀ (p:D8t),J0 s pl pat r last p.1 p.2.1 p.2.2.1 p.2.2.2=(pl++(sel (sel p (cR s r)) (cB s r last)).2.1,(sel (sel p (cR s r)) (cB s r last)).2.2.1,(sel (sel p (cR s r)) (cB s r last)).2.2.2):=fun p=>by
  unfold J0 C2
  rw [c]
  show (bif bad p.1 (cR s r) then _ else _)=_
  cases h:bad p.1 (cR s r) with
  | true=>rw [cond_true,b p,show sel p (cR s r)=p by unfold sel;rw [h];rfl]
  | false =>
   have e:sel p (cR s r)=(((N8 (cR s r).1).1.length:Int),(cR s r).1,(cR s r).2.1,(cR s r).2.2.1):=by unfold sel;rw [h];rfl
   rw [cond_false,e];exact b (((N8 (cR s r).1).1.length:Int),(cR s r).1,(cR s r).2.1,(cR s r).2.2.1)
 unfold P5 C2
 rw [d]
 show (bif bad (-1) (cP s r) then J0 s pl pat r last B1o.1 B1o.2.1 B1o.2.2.1 B1o.2.2.2 else J0 s pl pat r last ((N8 (cP s r).1).1.length:Int) (cP s r).1 (cP s r).2.1 (cP s r).2.2.1)=_
 unfold C1f
 cases h:bad (-1) (cP s r) with
 | true=>rw [cond_true,show sel B1o (cP s r)=B1o by unfold sel;rw [show B1o.1=-1 from rfl,h];rfl];exact a B1o
 | false =>
  have e:sel B1o (cP s r)=(((N8 (cP s r).1).1.length:Int),(cP s r).1,(cP s r).2.1,(cP s r).2.2.1):=by unfold sel;rw [show B1o.1=-1 from rfl,h];rfl
  rw [cond_false,e];exact a (((N8 (cP s r).1).1.length:Int),(cP s r).1,(cP s r).2.1,(cP s r).2.2.1)
theorem C8l (to_:Int) (x:Prn) (l:List Prn) (s:Sty) (a:List Act) (t:Int):I9 to_ (x::l) s a t=I9 to_ l (C1f s x (decide (x.til=to_))).2.2.1 (a++(C1f s x (decide (x.til=to_))).2.1) (C1f s x (decide (x.til=to_))).2.2.2:=by
 rw [I9,E9s];rfl
theorem E0h (to_:Int):∀ (l:List Prn) (s:Sty) (a:List Act) (t:Int),I9 to_ l s a t=(a++(I9 to_ l s [] t).1,(I9 to_ l s [] t).2)
 | [],s,a,t=>by
  show (a,s,t,(0:Int))=(a++[],s,t,0)
  rw [List.append_nil]
 | x::l,s,a,t=>by
  rw [C8l,C8l,E0h to_ l _ (a++_) _,E0h to_ l _ ([]++_) _,List.nil_append,List.append_assoc]
theorem E5k {x:List Cel} {from_ to_:Int} {s:Sty} (h:(F7 x from_ to_ s).2.2.2≠0):(F7 x from_ to_ s).1=[]:=by
 have c:∀ e,(P1 x from_ to_ s e).2.2.2≠0→(P1 x from_ to_ s e).1=[]:=fun e=>by
  unfold P1
  by_cases h0:e=0
  ·rw [decide_eq_true h0,Bool.not_true,cond_false]
   cases (((((decide (from_<0))||(decide (to_<from_)))||(decide ((x.length:Int)<to_)))||((decide (from_<(x.length:Int)))&&(decide ((x.getD ((from_).toNat) Cel.zero).wide=2))))||((decide (to_<(x.length:Int)))&&(decide ((x.getD ((to_).toNat) Cel.zero).wide=2)))) with
   | true=>exact fun _=>rfl
   | false =>
    rw [cond_false]
    intro b
    exfalso
    apply b
    have d:∀ (l:List Prn) (s:Sty) (a:List Act) (t:Int),(I9 to_ l s a t).2.2.2=0:=fun l=>by
     induction l with
     | nil=>intro s a t;rfl
     | cons y l ih=>intro s a t;rw [C8l];exact ih _ _ _
    exact d _ _ _ _
  ·rw [decide_eq_false h0,Bool.not_false,cond_true];exact fun _=>rfl
 unfold F7 at h ⊢
 cases hc:decide (G5 x false=0) with
 | true=>rw [hc] at h;exact c _ h
 | false=>rw [hc] at h;exact c _ h
structure SpanOk (x:List Cel) (from_ to_:Int) (s:Sty):Prop where
 row:RowV x
 sty:D5 s=0
 lim:0≤from_∧from_≤to_∧to_≤x.length
 f2:from_<x.length→(x.getD from_.toNat Cel.zero).wide≠2
 t2:to_<x.length→(x.getD to_.toNat Cel.zero).wide≠2
 is:F7 x from_ to_ s=I9 to_ (C1p to_ x from_) s [] to_
theorem D3m {x:List Cel} {from_ to_:Int} {s:Sty} (h:(F7 x from_ to_ s).2.2.2=0):SpanOk x from_ to_ s:=by
 unfold F7 at h
 by_cases hr:G5 x false=0
 ·rw [decide_eq_true hr,cond_true] at h
  have c:=h
  unfold P1 at h
  by_cases h0:D5 s=0
  ·rw [decide_eq_true h0,Bool.not_true,cond_false] at h
   cases hc:(((((decide (from_<0))||(decide (to_<from_)))||(decide ((x.length:Int)<to_)))||((decide (from_<(x.length:Int)))&&(decide ((x.getD ((from_).toNat) Cel.zero).wide=2))))||((decide (to_<(x.length:Int)))&&(decide ((x.getD ((to_).toNat) Cel.zero).wide=2)))) with
   | true=>rw [hc] at h;exact absurd (show (2:Int)=0 from h) ozw
   | false =>
    have a:=hc
    simp only [Bool.or_eq_false_iff,Bool.and_eq_false_iff,decide_eq_false_iff_not] at hc
    refine ⟨F5g hr,h0,⟨by omega,by omega,by omega⟩,fun b=>hc.1.2.resolve_left (fun n=>n b),fun b=>hc.2.resolve_left (fun n=>n b),?_⟩
    unfold F7
    rw [decide_eq_true hr,cond_true]
    unfold P1
    rw [decide_eq_true h0,Bool.not_true,cond_false,a,cond_false]
    rfl
  ·rw [decide_eq_false h0,Bool.not_false,cond_true] at h;exact absurd h h0
 ·rw [decide_eq_false hr,cond_false] at h
  unfold P1 at h
  rw [decide_eq_false hr,Bool.not_false,cond_true] at h;exact absurd h hr
def pw8 (j:Nat):Int:=(2:Int) ^ j
theorem C6a (s:Sty):D5 s=0 ↔ ((bW .andNot .i64 s.attr 255)=0∧0≤s.under∧s.under≤5)∧G3 s.fore=0∧G3 s.back=0∧G3 s.line=0:=by
 unfold D5
 by_cases h1:(bW .andNot .i64 s.attr 255)=0∧0≤s.under∧s.under≤5
 ·rw [show (((!decide ((bW .andNot .i64 s.attr 255)=0))||(decide (s.under<0)))||(decide ((5:Int)<s.under)))=false by simp only [Bool.or_eq_false_iff,Bool.not_eq_false',decide_eq_true_eq,decide_eq_false_iff_not];omega,cond_false]
  by_cases h2:G3 s.fore=0
  ·rw [decide_eq_true h2,Bool.not_true,cond_false]
   by_cases h3:G3 s.back=0
   ·rw [decide_eq_true h3,Bool.not_true,cond_false]
    by_cases h4:G3 s.line=0
    ·rw [decide_eq_true h4];exact ⟨fun _=>⟨h1,h2,h3,h4⟩,fun _=>rfl⟩
    ·rw [decide_eq_false h4];exact ⟨fun h=>absurd h h4,fun h=>absurd h.2.2.2 h4⟩
   ·rw [decide_eq_false h3];exact ⟨fun h=>absurd h h3,fun h=>absurd h.2.2.1 h3⟩
  ·rw [decide_eq_false h2];exact ⟨fun h=>absurd h h2,fun h=>absurd h.2.1 h2⟩
 ·rw [show (((!decide ((bW .andNot .i64 s.attr 255)=0))||(decide (s.under<0)))||(decide ((5:Int)<s.under)))=true by
   simp only [Bool.or_eq_true,Bool.not_eq_true',decide_eq_true_eq,decide_eq_false_iff_not]
   by_cases h5:(bW .andNot .i64 s.attr 255)=0
   ·have:¬ (0≤s.under∧s.under≤5):=fun h=>h1 ⟨h5,h⟩
    omega
   ·exact .inl (.inl h5),cond_true]
  exact ⟨fun h=>absurd h ozw,fun h=>absurd h.1 h1⟩
theorem D7b {s t:Sty} (a:D5 s=0) (b:D5 t=0):D5 {s with back:=t.back}=0:=by
 rw [C6a] at a b ⊢
 exact ⟨a.1,a.2.1,b.2.2.1,a.2.2.2⟩
theorem D7w:D5 Sty.zero=0:=by decide +kernel
def ch (n:Int):Act:={Act.zero with kind:=1,n:=n}
def C1x (m:Ar2):List Act:=(if m.a=0 then [] else [ch m.a])++(if m.b=0 then [] else [ch m.b])
theorem D2k (l:List Act) (c:Cel):A0n l c=l++(ch c.base::C1x c.marks):=by
 unfold A0n C1x
 by_cases h1:c.marks.a=0
 ·by_cases h2:c.marks.b=0
  ·rw [decide_eq_true h1,decide_eq_true h2,if_pos h1,if_pos h2];simp [ch]
  ·rw [decide_eq_true h1,decide_eq_false h2,if_pos h1,if_neg h2];simp [ch]
 ·by_cases h2:c.marks.b=0
  ·rw [decide_eq_false h1,decide_eq_true h2,if_neg h1,if_pos h2];simp [ch]
  ·rw [decide_eq_false h1,decide_eq_false h2,if_neg h1,if_neg h2];simp [ch]
def sgn (c:Cel):List Act:=ch c.base::C1x c.marks
def rep (n:Nat) (l:List Act):List Act:=(List.replicate n l).flatten
theorem C5i (n:Nat) (l:List Act):rep (n+1) l=l++rep n l:=by
 unfold rep;rw [List.replicate_succ,List.flatten_cons]
theorem D1d (r:Prn):∀ (a:Nat) (l:List Act) (t:Nat),(r.many - t).toNat<a→J4 r a l t=(l++rep (r.many - t).toNat (sgn r.sign),r.sign.sty,r.til,true)
 | 0,l,t,h=>by omega
 | a+1,l,t,h=>by
  rw [J4]
  by_cases c:(t:Int)<r.many
  ·rw [decide_eq_true c,cond_true,C2,D2k,D1d r a _ (t+1) opx]
   rw [show (r.many - (t:Int)).toNat=(r.many - ((t+1:Nat):Int)).toNat+1 by omega,C5i,List.append_assoc];rfl
  ·rw [decide_eq_false c,cond_false,show (r.many - (t:Int)).toNat=0 by omega]
   show (l,r.sign.sty,r.til,true)=(l++[],r.sign.sty,r.til,true)
   rw [List.append_nil]
def stp (s t:Sty):List Act:=(A6a s t).1
theorem F4s (s:Sty) (r:Prn):cP s r=(stp s r.sign.sty++rep r.many.toNat (sgn r.sign),r.sign.sty,r.til,true):=by
 unfold cP M7 C2
 have:=D1d r ((r.many - (0:Int)).toNat+1) (B5 s [] 0 r.sign.sty) 0 (Nat.lt_succ_self _)
 rw [show (r.many - ((0:Nat):Int)).toNat=r.many.toNat by omega] at this
 exact this
theorem C5g (v:BitVec 64):IntKind.i64.wrap (v.toNat:Int)=v.toInt:=by
 rw [BitVec.toInt_eq_toNat_bmod]
 have h:=v.isLt
 rw [Int.bmod_def]
 unfold IntKind.wrap
 simp only [IntKind.bits,IntKind.signed]
 have e:((2:Int) ^ 64)=18446744073709551616:=by decide
 have a:(((2 ^ 64:Nat):Int))=18446744073709551616:=by decide
 have b:((2:Int) ^ 63)=9223372036854775808:=by decide
 simp
 omega
theorem D1c (v:BitVec 64):BitVec.ofInt 64 (IntKind.i64.wrap (v.toNat:Int))=v:=by rw [C5g,BitVec.ofInt_toInt]
def bq (x:Int) (j:Nat):Bool:=(BitVec.ofInt 64 x).getLsbD j
theorem F4x (x y:Int) (j:Nat):bq (bW .or .i64 x y) j=(bq x j||bq y j):=by
 unfold bq bW
 show (BitVec.ofInt 64 (IntKind.i64.wrap ((BitVec.ofInt 64 x ||| BitVec.ofInt 64 y).toNat:Int))).getLsbD j=_
 rw [D1c,BitVec.getLsbD_or]
theorem B5y (x y:Int) (j:Nat) (a:j<64):bq (bW .andNot .i64 x y) j=(bq x j&&!bq y j):=by
 unfold bq bW
 show (BitVec.ofInt 64 (IntKind.i64.wrap ((BitVec.ofInt 64 x &&& ~~~BitVec.ofInt 64 y).toNat:Int))).getLsbD j=_
 rw [D1c,BitVec.getLsbD_and,BitVec.getLsbD_not,decide_eq_true a,Bool.true_and]
theorem B4d (x:Int) (b:Int) (j:Nat) (a:BitVec.ofInt 64 b=BitVec.twoPow 64 j) (c:(BitVec.twoPow 64 j).toInt=b):bW .and .i64 x b=bif bq x j then b else 0:=by
 unfold bq bW
 show IntKind.i64.wrap ((BitVec.ofInt 64 x &&& BitVec.ofInt 64 b).toNat:Int)=_
 rw [C5g,a,BitVec.and_twoPow]
 cases (BitVec.ofInt 64 x).getLsbD j with
 | true=>simpa using c
 | false=>simp
theorem F5d (x:Int):bW .and .i64 x 1=bif bq x 0 then 1 else 0:=B4d x 1 0 ozw ozw
theorem F5n (x:Int):bW .and .i64 x 2=bif bq x 1 then 2 else 0:=B4d x 2 1 ozw ozw
theorem F5m (x:Int):bW .and .i64 x 4=bif bq x 2 then 4 else 0:=B4d x 4 2 ozw ozw
theorem F5t (x:Int):bW .and .i64 x 8=bif bq x 3 then 8 else 0:=B4d x 8 3 ozw ozw
theorem F3f (x:Int):bW .and .i64 x 16=bif bq x 4 then 16 else 0:=B4d x 16 4 ozw ozw
theorem F4u (x:Int):bW .and .i64 x 32=bif bq x 5 then 32 else 0:=B4d x 32 5 ozw ozw
theorem F3r (x:Int):bW .and .i64 x 64=bif bq x 6 then 64 else 0:=B4d x 64 6 ozw ozw
theorem F1v (x:Int):bW .and .i64 x 128=bif bq x 7 then 128 else 0:=B4d x 128 7 ozw ozw
theorem F5k (x:Int):decide (bW .and .i64 x 3=0)=(!(bq x 0||bq x 1)):=by
 have e:BitVec.ofInt 64 3=BitVec.twoPow 64 0 ||| BitVec.twoPow 64 1:=by decide
 unfold bq bW
 show decide (IntKind.i64.wrap ((BitVec.ofInt 64 x &&& BitVec.ofInt 64 3).toNat:Int)=0)=_
 rw [C5g,e,BitVec.and_or_distrib_left,BitVec.and_twoPow,BitVec.and_twoPow]
 cases (BitVec.ofInt 64 x).getLsbD 0<;>cases (BitVec.ofInt 64 x).getLsbD 1<;>decide
theorem qnz (c:Bool) (b:Int) (a:b≠0):decide ((bif c then b else 0)=0)=!c:=by cases c<;>simp [a]
theorem bq3:∀ j<8,bq 3 j=(decide (j=0)||decide (j=1)):=by decide
def gq (f t:Sty):Bool:=(bq f.attr 0&&!bq t.attr 0)||(bq f.attr 1&&!bq t.attr 1)
theorem D7u (f t:Sty):C6u f t=gq f t:=by
 unfold C6u gq;rw [F5k,Bool.not_not,B5y _ _ _ opx,B5y _ _ _ opx]
theorem E1r (f t:Sty) (j:Nat) (a:j<8):bq (B3v f t) j=(bq f.attr j&&!(gq f t&&decide (j<2))):=by
 unfold B3v;rw [D7u]
 cases gq f t with
 | false=>simp
 | true =>
  rw [cond_true,B5y _ _ _ opx,bq3 j a]
  congr 1
  rcases j with _ | _ | j<;>simp
theorem D3p (x:Int):∀ j<8,bW .and .i64 x (pw8 j)=bif bq x j then pw8 j else 0:=by
 intro j a
 rcases j with _ | _ | _ | _ | _ | _ | _ | _ | j
 ·exact F5d x
 ·exact F5n x
 ·exact F5m x
 ·exact F5t x
 ·exact F3f x
 ·exact F4u x
 ·exact F3r x
 ·exact F1v x
 ·omega
theorem E2n:∀ j<8,pw8 j≠0:=by decide
theorem C8o:D2v=(List.range 8).map pw8:=by decide
theorem E2x (f t:Sty) (j:Nat) (a:j<8):D4m (B3v f t) t (pw8 j)=(bq (B3v f t) j&&!bq t.attr j):=by
 unfold D4m;rw [D3p _ j a,D3p _ j a,qnz _ _ (E2n j a),qnz _ _ (E2n j a),Bool.not_not]
theorem E8b (f t:Sty) (j:Nat) (a:j<8):D7z (B3v f t) t (pw8 j)=(bq t.attr j&&!bq (B3v f t) j):=by
 unfold D7z;rw [D3p _ j a,D3p _ j a,qnz _ _ (E2n j a),qnz _ _ (E2n j a),Bool.not_not]
theorem E9v (f t:Sty) (j:Nat) (a:j<2):D4m (B3v f t) t (pw8 j)=false:=by
 rw [E2x f t j opx,E1r f t j opx,show decide (j<2)=true by simp [a],Bool.and_true]
 unfold gq
 rcases j with _ | _ | j
 ·cases bq f.attr 0<;>cases bq t.attr 0<;>simp
 ·cases bq f.attr 1<;>cases bq t.attr 1<;>simp
 ·omega
theorem D2l {a:Int} (k:-9223372036854775808≤a) (j:a≤9223372036854775807):bW .andNot .i64 a 255=0 ↔ 0≤a∧a≤255:=by
 show IntKind.i64.wrap (((BitVec.ofInt 64 a &&& ~~~ BitVec.ofInt 64 255).toNat:Nat):Int)=0 ↔ _
 have f:∀ v:BitVec 64,IntKind.i64.wrap ((v.toNat:Nat):Int)=0 ↔ v=0#64:=fun v=>by
  have:=v.isLt
  constructor
  ·intro h
   apply BitVec.eq_of_toNat_eq
   simp [IntKind.wrap,IntKind.signed,IntKind.bits] at h ⊢
   omega
  ·intro h;subst h;decide
 rw [f]
 have e:(BitVec.ofInt 64 a).toNat=(a % 18446744073709551616).toNat:=by rw [BitVec.toNat_ofInt];rfl
 constructor
 ·intro h
  have d:(BitVec.ofInt 64 a).toNat<2 ^ 8:=by
   apply Nat.lt_pow_two_of_testBit
   intro i l
   have c:(BitVec.ofInt 64 a &&& ~~~ BitVec.ofInt 64 255).getLsbD i=false:=by rw [h];simp
   rw [BitVec.getLsbD_and,BitVec.getLsbD_not] at c
   by_cases hi64:i<64
   ·have b:(BitVec.ofInt 64 255).getLsbD i=false:=by
     show (255:Nat).testBit i=false
     exact Nat.testBit_lt_two_pow (Nat.lt_of_lt_of_le (by decide:255<2 ^ 8) (Nat.pow_le_pow_right ozw l))
    rw [b] at c
    simpa [hi64,BitVec.getLsbD] using c
   ·exact Nat.testBit_lt_two_pow (Nat.lt_of_lt_of_le (BitVec.isLt _) (Nat.pow_le_pow_right ozw opx))
  rw [e] at d;omega
 ·intro h
  obtain ⟨n,rfl⟩:∃ n:Nat,a=n:=⟨a.toNat,by omega⟩
  have g:n<256:=by omega
  clear h k j e f
  revert g;revert n;decide +kernel
theorem D8d {s:Sty} (h:D5 s=0):0≤s.under∧s.under≤5∧G3 s.fore=0∧G3 s.back=0∧G3 s.line=0:=by
 unfold D5 at h
 generalize hc:(((!decide ((bW .andNot .i64 s.attr 255)=0))||(decide (s.under<0)))||(decide ((5:Int)<s.under)))=c at h
 cases c with
 | true=>rw [cond_true] at h;omega
 | false =>
  simp only [Bool.or_eq_false_iff,decide_eq_false_iff_not] at hc
  rw [cond_false] at h
  by_cases h1:G3 s.fore=0
  ·rw [decide_eq_true h1] at h
   by_cases h2:G3 s.back=0
   ·rw [decide_eq_true h2] at h
    by_cases h3:G3 s.line=0
    ·exact ⟨by omega,by omega,h1,h2,h3⟩
    ·rw [decide_eq_false h3] at h;exact absurd h h3
   ·rw [decide_eq_false h2] at h;exact absurd h h2
  ·rw [decide_eq_false h1] at h;exact absurd h h1
def aR (s:Sty):Prop:=-9223372036854775808≤s.attr∧s.attr≤9223372036854775807
theorem E4q {a:Int} (e:0≤a) (d:a≤255) (j:Nat) (b:8≤j):bq a j=false:=by
 obtain ⟨n,rfl⟩:∃ n:Nat,a=n:=⟨a.toNat,by omega⟩
 unfold bq
 have c:n<2 ^ 64:=by omega
 rw [BitVec.ofInt_natCast,BitVec.getLsbD_ofNat,Nat.testBit_lt_two_pow (Nat.lt_of_lt_of_le (by omega:n<2 ^ 8) (Nat.pow_le_pow_right opx b)),Bool.and_false]
theorem F2t {a b:Int} (d:0≤a) (k:a≤255) (c:0≤b) (f:b≤255) (h:∀ j<8,bq a j=bq b j):a=b:=by
 have e:BitVec.ofInt 64 a=BitVec.ofInt 64 b:=by
  apply BitVec.eq_of_getLsbD_eq
  intro i l
  by_cases h8:i<8
  ·exact h i h8
  ·exact (E4q d k i opx).trans (E4q c f i opx).symm
 have g:=congrArg BitVec.toNat e
 rw [BitVec.toNat_ofInt,BitVec.toNat_ofInt] at g
 omega
theorem E9f {s:Sty} (a:aR s) (h:D5 s=0):0≤s.attr∧s.attr≤255:=(D2l a.1 a.2).1 ((C6a s).1 h).1.1
def sOk (s:Sty):Prop:=(0≤s.attr∧s.attr≤255)∧(0≤s.under∧s.under≤5)∧G3 s.fore=0∧G3 s.back=0∧G3 s.line=0
theorem E6s {s:Sty} (a:aR s) (h:D5 s=0):sOk s:=by
 obtain ⟨c,f,d,e,b⟩:=D8d h
 exact ⟨E9f a h,⟨c,f⟩,d,e,b⟩
theorem A4q {s:Sty} (h:sOk s):D5 s=0:=(C6a s).2 ⟨⟨(D2l (by have:=h.1;omega) (by have:=h.1;omega)).2 h.1,h.2.1⟩,h.2.2⟩
def ap (s:Sty) (a:Act):Sty :=
 (bif (decide (a.n=0)) then A3o s a else (bif (decide (a.n=1)) then A3l s a else (bif (decide (a.n=2)) then A3q s a else (bif (decide (a.n=3)) then A3r s a else (bif (decide (a.n=4)) then A1k s a else (bif (decide (a.n=5)) then A0a s a else A0b s a))))))
theorem E7n {s:Sty} {a:Act} (b:D5 s=0) (c:J6 a=0):A7n s a=(ap s a,0):=by
 unfold A7n C0g ap
 rw [b]
 simp only [C2,V3,decide_true,Bool.not_true,cond_false]
 rw [c]
 simp only [decide_true,Bool.not_true,cond_false]
 cases decide (a.n=0)<;>cases decide (a.n=1)<;>cases decide (a.n=2)<;>cases decide (a.n=3)<;>cases decide (a.n=4)<;>cases decide (a.n=5)<;>rfl
structure Nice (a:Act):Prop where
 chk:J6 a=0
 ok:∀ s,sOk s→sOk (ap s a)
theorem D3b:∀ (l:List Act) (s:Sty),sOk s→(∀ a ∈ l,Nice a)→sOk (l.foldl ap s)
 | [],s,hs,_=>hs
 | a::l,s,hs,h=>D3b l (ap s a) ((h a (List.mem_cons_self ..)).ok s hs) (fun a b=>h a (List.mem_cons_of_mem _ b))
theorem F2e:∀ n<256,∀ j<8,0≤bW .or .i64 ((n:Nat):Int) (pw8 j)∧bW .or .i64 ((n:Nat):Int) (pw8 j)≤255:=by decide +kernel
theorem F2r:∀ n<256,∀ j<8,0≤bW .andNot .i64 ((n:Nat):Int) (pw8 j)∧bW .andNot .i64 ((n:Nat):Int) (pw8 j)≤255:=by decide +kernel
theorem F2y:∀ n<256,0≤bW .andNot .i64 ((n:Nat):Int) 3∧bW .andNot .i64 ((n:Nat):Int) 3≤255:=by decide +kernel
theorem D9r {x:Int} (h:0≤x∧x≤255):∃ n:Nat,x=n∧n<256:=⟨x.toNat,by omega,by omega⟩
theorem D9o (s:Sty) (m:Int):ap s (kA 1 m)={s with attr:=bW .or .i64 s.attr m}:=rfl
theorem C5x (s:Sty) (m:Int):ap s (kA 2 m)={s with attr:=bW .andNot .i64 s.attr m}:=rfl
theorem E6l (s:Sty) (m:Int):ap s (kA 3 m)={s with under:=m}:=rfl
theorem E4w (s:Sty):ap s (kA 0 0)=Sty.zero:=rfl
theorem E1o (s:Sty) (c:Col):ap s (kC 4 c)={s with fore:=c}:=rfl
theorem E2w (s:Sty) (c:Col):ap s (kC 5 c)={s with back:=c}:=rfl
theorem E1f (s:Sty) (c:Col):ap s (kC 6 c)={s with line:=c}:=rfl
theorem E1u:sOk Sty.zero:=by unfold sOk;decide +kernel
theorem E4a:J6 (kA 0 0)=0:=by decide +kernel
theorem E4t:J6 (kA 2 3)=0:=by decide +kernel
theorem E9y:∀ j<8,J6 (kA 1 (pw8 j))=0:=by decide +kernel
theorem E9h:∀ j<8,2≤j→J6 (kA 2 (pw8 j))=0:=by decide +kernel
theorem E4e (m:Int) (a:0≤m) (b:m≤5):J6 (kA 3 m)=0:=by
 have:m=0∨m=1∨m=2∨m=3∨m=4∨m=5:=by omega
 rcases this with h | h | h | h | h | h<;>rw [h]<;>decide +kernel
theorem D9x (p:Int) (a:p=4∨p=5∨p=6) (c:Col) (h:G3 c=0):J6 (kC p c)=0:=by
 have e:J6 (kC p c)=(bif !decide (G3 c=0) then 141 else 0):=by rcases a with rfl | rfl | rfl<;>rfl
 rw [e,h];rfl
theorem D9l:Nice (kA 0 0):=⟨E4a,fun s _=>by rw [E4w];exact E1u⟩
theorem E3d:Nice (kA 2 3):=⟨E4t,fun s h=>by
 rw [C5x];obtain ⟨n,e,a⟩:=D9r h.1
 exact ⟨by show 0≤bW .andNot .i64 s.attr 3∧bW .andNot .i64 s.attr 3≤255;rw [e];exact F2y n a,h.2⟩⟩
theorem E6u (j:Nat) (a:j<8) (c:2≤j):Nice (kA 2 (pw8 j)):=⟨E9h j a c,fun s h=>by
 rw [C5x];obtain ⟨n,e,b⟩:=D9r h.1
 exact ⟨by show 0≤bW .andNot .i64 s.attr (pw8 j)∧bW .andNot .i64 s.attr (pw8 j)≤255;rw [e];exact F2r n b j a,h.2⟩⟩
theorem E7o (j:Nat) (a:j<8):Nice (kA 1 (pw8 j)):=⟨E9y j a,fun s h=>by
 rw [D9o];obtain ⟨n,e,b⟩:=D9r h.1
 exact ⟨by show 0≤bW .or .i64 s.attr (pw8 j)∧bW .or .i64 s.attr (pw8 j)≤255;rw [e];exact F2e n b j a,h.2⟩⟩
theorem E5a (m:Int) (a:0≤m) (b:m≤5):Nice (kA 3 m):=⟨E4e m a b,fun s h=>by rw [E6l];exact ⟨h.1,⟨a,b⟩,h.2.2⟩⟩
theorem E2z (c:Col) (a:G3 c=0):Nice (kC 4 c):=⟨D9x 4 opx c a,fun s h=>by rw [E1o];exact ⟨h.1,h.2.1,a,h.2.2.2⟩⟩
theorem E4c (c:Col) (a:G3 c=0):Nice (kC 5 c):=⟨D9x 5 opx c a,fun s h=>by rw [E2w];exact ⟨h.1,h.2.1,h.2.2.1,a,h.2.2.2.2⟩⟩
theorem E3b (c:Col) (a:G3 c=0):Nice (kC 6 c):=⟨D9x 6 opx c a,fun s h=>by rw [E1f];exact ⟨h.1,h.2.1,h.2.2.1,h.2.2.2.1,a⟩⟩
theorem D0h (f t:Sty) (h:D5 t=0):∀ a ∈ chg f t,Nice a:=by
 obtain ⟨i,k,d,e,g⟩:=D8d h
 intro a c
 unfold chg D5m sets B8b at c
 rw [C8o] at c
 simp only [List.mem_append,List.mem_flatMap,List.mem_map,List.mem_range] at c
 rcases c with h | ⟨b,⟨j,hj,rfl⟩,h⟩ | ⟨b,⟨j,hj,rfl⟩,h⟩ | h | h | h | h
 ·rw [A7s h];exact E3d
 ·by_cases h2:2≤j
  ·rw [A7s h];exact E6u j hj h2
  ·rw [E9v f t j opx] at h;cases h
 ·rw [A7s h];exact E7o j hj
 ·rw [A7s h];exact E5a _ i k
 ·rw [A7s h];exact E2z _ d
 ·rw [A7s h];exact E4c _ e
 ·rw [A7s h];exact E3b _ g
theorem E3a (t:Sty) (h:D5 t=0):∀ a ∈ A1i t,Nice a:=by
 rw [B4s]
 intro a b
 rcases List.mem_cons.1 b with rfl | b
 ·exact D9l
 ·exact D0h _ _ h a b
theorem F0h:∀ i<8,∀ j<8,bq (pw8 i) j=decide (i=j):=by unfold bq pw8;decide +kernel
def B8z (s a:Sty):Prop:=a.under=s.under∧a.fore=s.fore∧a.back=s.back∧a.line=s.line
theorem B8z.trans {a b c:Sty} (h:B8z a b) (d:B8z b c):B8z a c:=⟨d.1.trans h.1,d.2.1.trans h.2.1,d.2.2.1.trans h.2.2.1,d.2.2.2.trans h.2.2.2⟩
theorem B3l (c:Bool) (a:Act) (s:Sty):(A1q c a).foldl ap s=bif c then ap s a else s:=by cases c<;>rfl
theorem D7g (C:Int→Bool):∀ (l:List Nat) (s:Sty),(∀ i ∈ l,i<8) →
  B8z s (((l.map pw8).flatMap fun b=>A1q (C b) (kA 2 b)).foldl ap s)∧∀ j<8,bq (((l.map pw8).flatMap fun b=>A1q (C b) (kA 2 b)).foldl ap s).attr j=(bq s.attr j&&!(l.any fun i=>decide (i=j)&&C (pw8 i)))
 | [],s,h=>⟨⟨rfl,rfl,rfl,rfl⟩,fun j a=>by simp⟩
 | i::l,s,h=>by
  have c:=h i (List.mem_cons_self ..)
  rw [List.map_cons,List.flatMap_cons,List.foldl_append,B3l]
  have d:=D7g C l (bif C (pw8 i) then ap s (kA 2 (pw8 i)) else s) (fun i c=>h i (List.mem_cons_of_mem _ c))
  refine ⟨B8z.trans ?_ d.1,fun j a=>?_⟩
  ·cases C (pw8 i) with
   | true=>rw [cond_true,C5x];exact ⟨rfl,rfl,rfl,rfl⟩
   | false=>exact ⟨rfl,rfl,rfl,rfl⟩
  ·rw [d.2 j a,List.any_cons]
   cases C (pw8 i) with
   | true =>
    rw [cond_true,C5x]
    show (bq (bW .andNot .i64 s.attr (pw8 i)) j&&_)=_
    rw [B5y _ _ _ opx,F0h i c j a,Bool.and_true,Bool.not_or,Bool.and_assoc]
   | false=>rw [cond_false,Bool.and_false,Bool.false_or]
theorem D8o (C:Int→Bool):∀ (l:List Nat) (s:Sty),(∀ i ∈ l,i<8) →
  B8z s (((l.map pw8).flatMap fun b=>A1q (C b) (kA 1 b)).foldl ap s)∧∀ j<8,bq (((l.map pw8).flatMap fun b=>A1q (C b) (kA 1 b)).foldl ap s).attr j=(bq s.attr j||(l.any fun i=>decide (i=j)&&C (pw8 i)))
 | [],s,h=>⟨⟨rfl,rfl,rfl,rfl⟩,fun j a=>by simp⟩
 | i::l,s,h=>by
  have c:=h i (List.mem_cons_self ..)
  rw [List.map_cons,List.flatMap_cons,List.foldl_append,B3l]
  have d:=D8o C l (bif C (pw8 i) then ap s (kA 1 (pw8 i)) else s) (fun i c=>h i (List.mem_cons_of_mem _ c))
  refine ⟨B8z.trans ?_ d.1,fun j a=>?_⟩
  ·cases C (pw8 i) with
   | true=>rw [cond_true,D9o];exact ⟨rfl,rfl,rfl,rfl⟩
   | false=>exact ⟨rfl,rfl,rfl,rfl⟩
  ·rw [d.2 j a,List.any_cons]
   cases C (pw8 i) with
   | true =>
    rw [cond_true,D9o]
    show (bq (bW .or .i64 s.attr (pw8 i)) j||_)=_
    rw [F4x,F0h i c j a,Bool.and_true,Bool.or_assoc]
   | false=>rw [cond_false,Bool.and_false,Bool.false_or]
theorem F3h (C:Int→Bool):∀ j<8,((List.range 8).any fun i=>decide (i=j)&&C (pw8 i))=C (pw8 j):=by
 intro j a
 rw [Bool.eq_iff_iff,List.any_eq_true]
 constructor
 ·rintro ⟨i,b,h⟩
  simp only [Bool.and_eq_true,decide_eq_true_eq] at h
  obtain ⟨rfl,h⟩:=h;exact h
 ·intro h;exact ⟨j,List.mem_range.2 a,by simp [h]⟩
theorem D8k (f t:Sty) (u:sOk f) (n:sOk t):(chg f t).foldl ap f=t:=by
 have B1f:=D3b (chg f t) f u (D0h f t (A4q n))
 have m:∀ c b s3:Sty,c=(A1q (C6u f t) (kA 2 3)).foldl ap f→b=(D5m (B3v f t) t).foldl ap c→s3=(sets (B3v f t) t).foldl ap b→(chg f t).foldl ap f=(B8b f t).foldl ap s3:=by
  intro c b s3 k g d
  unfold chg;rw [List.foldl_append,List.foldl_append,List.foldl_append,← k,← g,← d]
 have e:=m _ _ _ rfl rfl rfl
 generalize k:(A1q (C6u f t) (kA 2 3)).foldl ap f=c at e
 generalize g:(D5m (B3v f t) t).foldl ap c=b at e
 generalize d:(sets (B3v f t) t).foldl ap b=s3 at e
 have o:B8z f c∧∀ j<8,bq c.attr j=bq (B3v f t) j:=by
  rw [B3l,D7u] at k
  refine ⟨?_,fun j a=>?_⟩
  ·rw [← k];cases gq f t with
   | true=>rw [cond_true,C5x];exact ⟨rfl,rfl,rfl,rfl⟩
   | false=>exact ⟨rfl,rfl,rfl,rfl⟩
  ·rw [E1r f t j a,← k]
   cases gq f t with
   | true =>
    rw [cond_true,C5x]
    show bq (bW .andNot .i64 f.attr 3) j=_
    rw [B5y _ _ _ opx,bq3 j a]
    congr 1
    rcases j with _ | _ | j<;>simp
   | false=>simp
 have r:B8z c b∧∀ j<8,bq b.attr j=(bq (B3v f t) j&&bq t.attr j):=by
  unfold D5m at g;rw [C8o] at g
  have q:=D7g (D4m (B3v f t) t) (List.range 8) c (fun i l=>List.mem_range.1 l)
  rw [g] at q
  refine ⟨q.1,fun j a=>?_⟩
  rw [q.2 j a,F3h _ j a,o.2 j a,E2x f t j a]
  cases bq (B3v f t) j<;>cases bq t.attr j<;>rfl
 have p:B8z b s3∧∀ j<8,bq s3.attr j=bq t.attr j:=by
  unfold sets at d;rw [C8o] at d
  have q:=D8o (D7z (B3v f t) t) (List.range 8) b (fun i l=>List.mem_range.1 l)
  rw [d] at q
  refine ⟨q.1,fun j a=>?_⟩
  rw [q.2 j a,F3h _ j a,r.2 j a,E8b f t j a]
  cases bq (B3v f t) j<;>cases bq t.attr j<;>rfl
 have z:=(o.1.trans r.1).trans p.1
 obtain ⟨ru,w,rb,rl⟩:=z
 have s:(B8b f t).foldl ap s3={s3 with under:=t.under,fore:=t.fore,back:=t.back,line:=t.line}:=by
  unfold B8b
  rw [List.foldl_append,List.foldl_append,List.foldl_append,B3l,B3l,B3l,B3l,E6l]
  have x:(bif !decide (f.under=t.under) then ({s3 with under:=t.under}:Sty) else s3)={s3 with under:=t.under}:=by
   by_cases h:f.under=t.under
   ·rw [decide_eq_true h];show s3=_;rw [← h,← ru]
   ·rw [decide_eq_false h];rfl
  rw [x,E1o]
  have y:(bif !decide (f.fore=t.fore) then ({({s3 with under:=t.under}:Sty) with fore:=t.fore}:Sty) else {s3 with under:=t.under})={s3 with under:=t.under,fore:=t.fore}:=by
   by_cases h:f.fore=t.fore
   ·rw [decide_eq_true h];show ({s3 with under:=t.under}:Sty)=_;rw [← h,← w]
   ·rw [decide_eq_false h];rfl
  rw [y,E2w]
  have v:(bif !decide (f.back=t.back) then ({({s3 with under:=t.under,fore:=t.fore}:Sty) with back:=t.back}:Sty) else {s3 with under:=t.under,fore:=t.fore})={s3 with under:=t.under,fore:=t.fore,back:=t.back}:=by
   by_cases h:f.back=t.back
   ·rw [decide_eq_true h];show ({s3 with under:=t.under,fore:=t.fore}:Sty)=_;rw [← h,← rb]
   ·rw [decide_eq_false h];rfl
  rw [v,E1f]
  by_cases h:f.line=t.line
  ·rw [decide_eq_true h];show ({s3 with under:=t.under,fore:=t.fore,back:=t.back}:Sty)=_;rw [← h,← rl]
  ·rw [decide_eq_false h];rfl
 rw [e,s] at B1f
 rw [e,s]
 have ea:s3.attr=t.attr:=F2t B1f.1.1 B1f.1.2 n.1.1 n.1.2 p.2
 rw [ea]
theorem E3p (t s:Sty) (a:sOk t):(A1i t).foldl ap s=t:=by
 rw [B4s,List.foldl_cons]
 exact D8k Sty.zero t E1u a
theorem A4e (l:List Cel) (k i:Nat) (c:Cel):(l.set k c).getD i Cel.zero=if k=i∧k<l.length then c else l.getD i Cel.zero:=by
 rw [List.getD_eq_getElem?_getD,List.getD_eq_getElem?_getD,List.getElem?_set]
 by_cases h:k=i
 ·subst h
  by_cases h2:k<l.length
  ·simp [h2]
  ·simp [h2,List.getElem?_eq_none (Nat.le_of_not_lt h2)]
 ·simp [h]
theorem E7l {l m:List Cel} (h:l.length=m.length) (b:∀ i<l.length,l.getD i Cel.zero=m.getD i Cel.zero):l=m:=by
 refine List.ext_getElem h fun i a c=>?_
 have:=b i a
 rwa [List.getD_eq_getElem?_getD,List.getD_eq_getElem?_getD,List.getElem?_eq_getElem a,List.getElem?_eq_getElem c] at this
def E6n (a b:Cel):Prop:=(a.wide=1 ↔ b.wide=2)∧(b.wide=2→b.sty=a.sty)
def D1b:Cel→List Cel→Prop
 | p,[]=>p.wide≠1
 | p,c::l=>F5 c=0∧E6n p c∧D1b c l
theorem D6t:∀ (l:List Cel) (t:Nat) (p:Cel),O1 l t p=0 ↔ D1b p l
 | [],t,p=>by
  rw [O1];unfold D1b
  by_cases h:p.wide=1
  ·simp [h]
  ·simp [h]
 | c::l,t,p=>by
  rw [O1];unfold D1b E6n
  cases hb:(((!decide ((F5 c)=0))||(!((decide (p.wide=1)) == (decide (c.wide=2)))))||((decide (c.wide=2))&&(!(decide (c.sty=p.sty))))) with
  | true =>
   rw [cond_true]
   refine ⟨fun h=>absurd h ozw,fun ⟨a,⟨d,b⟩,_⟩=>?_⟩
   exfalso
   have e:(decide (p.wide=1) == decide (c.wide=2))=true:=by rw [beq_iff_eq];exact decide_eq_decide.2 d
   rw [e,decide_eq_true a] at hb
   by_cases q:c.wide=2
   ·rw [decide_eq_true (b q)] at hb;simp at hb
   ·simp [q] at hb
  | false =>
   rw [cond_false,D6t l (t+1) c]
   simp only [Bool.or_eq_false_iff,Bool.and_eq_false_iff,Bool.not_eq_false',decide_eq_true_eq,beq_iff_eq,decide_eq_false_iff_not,decide_eq_decide] at hb
   obtain ⟨⟨a,d⟩,b⟩:=hb
   exact ⟨fun h=>⟨a,⟨d,fun q=>b.resolve_left (fun n=>n q)⟩,h⟩,fun h=>h.2.2⟩
def prv (p:Cel) (l:List Cel) (i:Nat):Cel:=if i=0 then p else l.getD (i - 1) Cel.zero
theorem C4x (p c:Cel) (l:List Cel) (i:Nat):prv p (c::l) (i+1)=prv c l i:=by
 unfold prv
 rw [if_neg (Nat.succ_ne_zero i)]
 cases i with
 | zero=>rfl
 | succ i=>rw [if_neg (Nat.succ_ne_zero i)];rfl
theorem D8v:∀ (l:List Cel) (p:Cel),D1b p l ↔ (∀ i<l.length,F5 (l.getD i Cel.zero)=0∧E6n (prv p l i) (l.getD i Cel.zero))∧(prv p l l.length).wide≠1
 | [],p=>by
  unfold D1b
  exact ⟨fun h=>⟨fun i b=>(by cases b),h⟩,fun h=>h.2⟩
 | c::l,p=>by
  unfold D1b
  rw [D8v l c]
  constructor
  ·rintro ⟨a,d,f,g⟩
   refine ⟨fun i b=>?_,by rw [List.length_cons,C4x];exact g⟩
   cases i with
   | zero=>exact ⟨a,d⟩
   | succ i=>rw [C4x];exact f i (by simp only [List.length_cons] at b;omega)
  ·rintro ⟨a,d⟩
   have e:=a 0 oom
   refine ⟨e.1,e.2,fun i b=>?_,by rw [List.length_cons,C4x] at d;exact d⟩
   have:=a (i+1) (by simp only [List.length_cons];omega)
   rw [C4x] at this;exact this
structure RowW (l:List Cel):Prop where
 len:2≤l.length∧l.length≤80
 ix:∀ i<l.length,F5 (l.getD i Cel.zero)=0∧E6n (prv Cel.zero l i) (l.getD i Cel.zero)
 last:(prv Cel.zero l l.length).wide≠1
theorem B5n {l:List Cel} {w:Bool}:G5 l w=0 ↔ RowW l:=by
 unfold G5
 by_cases hl:2≤l.length∧l.length≤80
 ·rw [show ((decide ((l.length:Int)<2))||(decide ((80:Int)<(l.length:Int))))=false by simp only [Bool.or_eq_false_iff,decide_eq_false_iff_not];omega,cond_false,D6t,D8v]
  exact ⟨fun h=>⟨hl,h.1,h.2⟩,fun h=>⟨h.ix,h.last⟩⟩
 ·rw [show ((decide ((l.length:Int)<2))||(decide ((80:Int)<(l.length:Int))))=true by simp only [Bool.or_eq_true,decide_eq_true_eq];omega,cond_true]
  exact ⟨fun h=>absurd h ozw,fun h=>absurd h.len hl⟩
theorem D6l {c:Cel}:M3 c=true ↔ c={Cel.zero with wide:=2,sty:=c.sty}:=by unfold M3;exact decide_eq_true_iff
theorem A6v {c:Cel}:F5 c=0 ↔ (M3 c=true∨((0≤c.wide∧c.wide≤1)∧F6 c.base=c.wide+1∧Y4 c.marks=true))∧D5 c.sty=0:=by
 unfold F5
 by_cases q:0≤c.wide∧c.wide≤1
 ·rw [show IntKind.i64.wrap (c.wide+(1:Int))=c.wide+1 from wr6 opx]
  cases M3 c<;>cases Y4 c.marks<;>by_cases h:F6 c.base=c.wide+1<;>by_cases h2:D5 c.sty=0<;>simp [q.1,q.2,h,h2]
 ·have e:(decide ((0:Int)≤c.wide)&&decide (c.wide≤1))=false:=by simp only [Bool.and_eq_false_iff,decide_eq_false_iff_not];omega
  rw [e]
  cases M3 c<;>by_cases h2:D5 c.sty=0<;>simp [q,h2]
theorem B6u {c:Cel} (h:F5 c=0):0≤c.wide∧c.wide≤2:=by
 rcases (A6v.1 h).1 with h | h
 ·rw [B2n h];decide
 ·omega
theorem D5e {c:Cel} (h:F5 c=0) (a:c.wide=2):M3 c=true:=by
 rcases (A6v.1 h).1 with h | h
 ·exact h
 ·omega
theorem B4h {c:Cel} (a:c.wide≠2):M3 c=false:=by
 cases h:M3 c with
 | true=>exact absurd (B2n h) a
 | false=>rfl
theorem D6f {s:Sty} (h:D5 s=0):F5 (G8 s)=0 :=
 A6v.2 ⟨.inr ⟨⟨Int.le_refl 0,by show (0:Int)≤1;decide⟩,by show F6 32=0+1;decide +kernel,by show Y4 Ar2.zero=true;decide +kernel⟩,h⟩
theorem E9n {c:Cel} (h:F5 c=0):D5 {Sty.zero with back:=c.sty.back}=0:=D7b D7w (A6v.1 h).2
theorem B4u {p:Cel} {l:List Cel} {i:Nat} (h:0<i):prv p l i=l.getD (i - 1) Cel.zero:=if_neg opx
theorem B5q {p:Cel} {l m:List Cel} {i:Nat} (h:0<i→l.getD (i - 1) Cel.zero=m.getD (i - 1) Cel.zero):prv p l i=prv p m i:=by
 unfold prv
 by_cases e:i=0
 ·rw [if_pos e,if_pos e]
 ·rw [if_neg e,if_neg e];exact h opx
theorem RowW.set {l:List Cel} (h:RowW l) {t:Nat} {c:Cel} (f:F5 c=0) (e:c.wide=(l.getD t Cel.zero).wide) (d:c.sty=(l.getD t Cel.zero).sty):RowW (l.set t c):=by
 have g:∀ i,((l.set t c).getD i Cel.zero).wide=(l.getD i Cel.zero).wide∧((l.set t c).getD i Cel.zero).sty=(l.getD i Cel.zero).sty:=fun i=>by
  rw [A4e];split
  ·rename_i q;rw [← q.1];exact ⟨e,d⟩
  ·exact ⟨rfl,rfl⟩
 have a:∀ i,(prv Cel.zero (l.set t c) i).wide=(prv Cel.zero l i).wide∧(prv Cel.zero (l.set t c) i).sty=(prv Cel.zero l i).sty:=fun i=>by
  unfold prv;split
  ·exact ⟨rfl,rfl⟩
  ·exact g _
 refine ⟨by rw [List.length_set];exact h.len,fun i b=>?_,by rw [List.length_set,(a _).1];exact h.last⟩
 rw [List.length_set] at b
 refine ⟨?_,?_⟩
 ·rw [A4e];split
  ·exact f
  ·exact (h.ix i b).1
 ·unfold E6n;rw [(a i).1,(a i).2,(g i).1,(g i).2];exact (h.ix i b).2
structure Ctx (X was:List Cel) (f:Nat):Prop where
 hx:RowW X
 hw:RowW was
 len:was.length=X.length
 lt:f<X.length
 fx:(X.getD f Cel.zero).wide≠2
 fw:(was.getD f Cel.zero).wide≠2
structure Inv (X was:List Cel) (f t:Nat) (C:List Cel):Prop where
 len:C.length=X.length
 lo:∀ i<f,C.getD i Cel.zero=was.getD i Cel.zero
 mid:∀ i,f≤i→i<t→C.getD i Cel.zero=X.getD i Cel.zero
 hi:∀ i,t<i→C.getD i Cel.zero=was.getD i Cel.zero
 at_:t<X.length→((was.getD t Cel.zero).wide≠2∧C.getD t Cel.zero=was.getD t Cel.zero)∨((was.getD t Cel.zero).wide=2∧(C.getD t Cel.zero).wide=0∧F5 (C.getD t Cel.zero)=0)
theorem Inv.at2 {X was C:List Cel} {f t:Nat} (h:Inv X was f t C) (a:t<X.length):(C.getD t Cel.zero).wide≠2:=by
 rcases h.at_ a with q | q
 ·rw [q.2];exact q.1
 ·rw [q.2.1];decide
theorem Inv.row {X was C:List Cel} {f t:Nat} (k:Ctx X was f) (h:Inv X was f t C) (u:f≤t) (r:t≤X.length) (p:t<X.length→(X.getD t Cel.zero).wide≠2):RowW C:=by
 have a:=h.len;have d:=k.len
 refine ⟨by rw [a];exact k.hx.len,fun i c=>?_,?_⟩
 ·rw [a] at c
  have b:=k.hw.ix i opx
  have l:=k.hx.ix i c
  by_cases c1:i<f
  ·rw [h.lo i c1,B5q (m:=was) (fun q=>h.lo _ opx)];exact b
  by_cases c2:i<t
  ·rw [h.mid i opx c2]
   refine ⟨l.1,?_⟩
   by_cases c3:i=f
   ·subst c3
    rw [B5q (m:=was) (fun q=>h.lo _ opx)]
    exact ⟨⟨fun q=>absurd (b.2.1.1 q) k.fw,fun q=>absurd q k.fx⟩,fun q=>absurd q k.fx⟩
   ·rw [B5q (m:=X) (fun q=>h.mid _ opx opx)];exact l.2
  by_cases c3:i=t
  ·subst c3
   have n2:=h.at2 c
   by_cases c4:i=f
   ·subst c4
    rw [B5q (m:=was) (fun q=>h.lo _ opx)]
    rcases h.at_ c with q | q
    ·rw [q.2];exact b
    ·exact absurd q.1 k.fw
   ·refine ⟨?_,?_⟩
    ·rcases h.at_ c with q | q
     ·rw [q.2];exact b.1
     ·exact q.2.2
    ·rw [B5q (m:=X) (fun q=>h.mid _ opx opx)]
     exact ⟨⟨fun q=>absurd (l.2.1.1 q) (p c),fun q=>absurd q n2⟩,fun q=>absurd q n2⟩
  rw [h.hi i opx]
  refine ⟨b.1,?_⟩
  by_cases c4:i=t+1
  ·subst c4
   rw [B4u (show 0<t+1 by omega),Nat.add_sub_cancel]
   have j:=b.2
   rw [B4u (show 0<t+1 by omega),Nat.add_sub_cancel] at j
   rcases h.at_ opx with q | q
   ·rw [q.2];exact j
   ·have n2:(was.getD (t+1) Cel.zero).wide≠2:=fun e=>by have:=j.1.2 e;omega
    exact ⟨⟨fun e=>by omega,fun e=>absurd e n2⟩,fun e=>absurd e n2⟩
  ·rw [B5q (m:=was) (fun q=>h.hi _ opx)];exact b.2
 ·have s:=k.hx.len;have o:=k.lt
  rw [a,B4u opx]
  have n:=k.hx.last;have g:=k.hw.last
  rw [B4u opx] at n g
  by_cases c1:X.length - 1<t
  ·rw [h.mid _ opx c1];exact n
  by_cases c2:X.length - 1=t
  ·rcases h.at_ opx with q | q
   ·rw [c2,q.2,← c2,← d];exact g
   ·rw [c2,q.2.1];decide
  ·rw [h.hi _ opx,← d];exact g
theorem D8u {C:List Cel} {t:Nat} (h:RowW C) (a:t<C.length):A1x C false (t:Int)=0:=by
 unfold A1x
 rw [(B5n (w:=false)).2 h,show (decide ((t:Int)<0)||decide ((C.length:Int)≤(t:Int)))=false by simp only [Bool.or_eq_false_iff,decide_eq_false_iff_not];omega]
 rfl
theorem F4l (C:List Cel) (t e:Nat) (a:(C.getD t Cel.zero).wide≠2) (b:0<e) :
  B0d C ([(t:Int),(e:Int)]:List Int)=if e<C.length∧M3 (C.getD e Cel.zero)=true then (C.set (e - 1) (G8 ({Sty.zero with back:=((C.getD (e - 1) Cel.zero).sty).back}))).set e (G8 ({Sty.zero with back:=(((C.set (e - 1) (G8 ({Sty.zero with back:=((C.getD (e - 1) Cel.zero).sty).back}))).getD e Cel.zero).sty).back})) else C:=by
 unfold B0d
 rw [A0t,Int.toNat_natCast,B4h a,Bool.and_false,cond_false,A0t,Int.toNat_natCast]
 by_cases h:e<C.length∧M3 (C.getD e Cel.zero)=true
 ·rw [if_pos h,h.2,decide_eq_true (show (0:Int)<(e:Int) by omega),decide_eq_true (show (e:Int)<(C.length:Int) by omega)]
  rfl
 ·rw [if_neg h]
  have:((decide ((0:Int)<(e:Int))&&decide ((e:Int)<(C.length:Int)))&&M3 (C.getD e Cel.zero))=false:=by
   cases q:M3 (C.getD e Cel.zero) with
   | true =>
    have:¬ e<C.length:=fun l=>h ⟨l,q⟩
    rw [decide_eq_false (show ¬ (e:Int)<(C.length:Int) by omega)];simp
   | false=>simp
  rw [this];rfl
theorem E8x {X was C:List Cel} {f t e:Nat} (k:Ctx X was f) (h:Inv X was f t C) (j:t<X.length) (b:t<e) (P:List Cel) (a:P=B0d C ([(t:Int),(e:Int)]:List Int)) :
  P.length=C.length∧(∀ i,i≠e→i+1≠e→P.getD i Cel.zero=C.getD i Cel.zero)∧(e<X.length→((was.getD e Cel.zero).wide≠2∧P.getD e Cel.zero=was.getD e Cel.zero)∨((was.getD e Cel.zero).wide=2∧(P.getD e Cel.zero).wide=0∧F5 (P.getD e Cel.zero)=0)):=by
 have c:=k.len
 rw [F4l C t e (h.at2 j) opx] at a
 have m:=h.len
 by_cases q:e<C.length∧M3 (C.getD e Cel.zero)=true
 ·rw [if_pos q] at a
  subst a
  refine ⟨by simp only [List.length_set],fun i l n=>?_,fun d=>.inr ⟨?_,?_,?_⟩⟩
  ·rw [A4e,if_neg opx,A4e,if_neg opx]
  ·rw [← h.hi e b];exact B2n q.2
  ·rw [A4e,if_pos ⟨rfl,by rw [List.length_set];exact q.1⟩];rfl
  ·rw [A4e,if_pos ⟨rfl,by rw [List.length_set];exact q.1⟩,A4e,if_neg opx,h.hi e b]
   exact D6f (E9n (k.hw.ix e opx).1)
 ·rw [if_neg q] at a
  subst a
  refine ⟨rfl,fun i _ _=>rfl,fun d=>.inl ⟨fun g=>q ⟨by omega,?_⟩,h.hi e b⟩⟩
  rw [h.hi e b];exact D5e (k.hw.ix e opx).1 g
theorem C8j {X:List Cel} (h:RowW X) {t:Nat} (d:t<X.length) (c:(X.getD t Cel.zero).wide=1):t+1<X.length∧X.getD (t+1) Cel.zero={Cel.zero with wide:=2,sty:=(X.getD t Cel.zero).sty}:=by
 have b:t+1<X.length:=by
  by_cases q:t+1<X.length
  ·exact q
  ·have:=h.last
   rw [B4u opx,show X.length - 1=t by omega] at this
   exact absurd c this
 have:=h.ix (t+1) b
 rw [B4u (show 0<t+1 by omega),Nat.add_sub_cancel] at this
 have a:=this.2.1.1 c
 refine ⟨b,?_⟩
 have e:=D6l.1 (D5e this.1 a)
 rw [this.2.2 a] at e;exact e
theorem F0y {X was C:List Cel} {f t:Nat} (k:Ctx X was f) (h:Inv X was f t C) (n:f≤t) (j:t<X.length) (m:(X.getD t Cel.zero).wide≠2) :
  ∃ D,B6v C false (t:Int) (X.getD t Cel.zero)=(D,false,0)∧Inv X was f (t+1+(X.getD t Cel.zero).wide.toNat) D:=by
 have w:=h.len;have l:=k.hx.ix t j
 have wd:=B6u l.1
 have p:RowW C:=h.row k n opx (fun _=>m)
 have B1f:=C8j k.hx j
 unfold B6v
 rw [D8u p opx,B4h m,l.1]
 have r:(decide ((X.getD t Cel.zero).wide=1)&&decide ((t:Int)=((C.length:Int) - 1)))=false:=by
  by_cases q:(X.getD t Cel.zero).wide=1
  ·have:=(B1f q).1
   rw [decide_eq_false (show ¬ (t:Int)=(C.length:Int) - 1 by omega),Bool.and_false]
  ·rw [decide_eq_false q,Bool.false_and]
 rw [r]
 simp only [decide_true,Bool.not_true,cond_false,Bool.or_self]
 refine ⟨_,rfl,?_⟩
 show Inv X was f _ (A9d C (t:Int) (X.getD t Cel.zero))
 unfold A9d C2
 have s:((t:Int)+1)+(X.getD t Cel.zero).wide=((t+1+(X.getD t Cel.zero).wide.toNat:Nat):Int):=by omega
 rw [s]
 generalize hP:B0d C ([(t:Int),((t+1+(X.getD t Cel.zero).wide.toNat:Nat):Int)]:List Int)=P
 obtain ⟨p1,p2,p3⟩:=E8x k h j opx P hP.symm
 rw [Int.toNat_natCast]
 dsimp only
 by_cases q:(X.getD t Cel.zero).wide=1
 ·obtain ⟨v,o⟩:=B1f q
  rw [decide_eq_true q,cond_true]
  have e:t+1+(X.getD t Cel.zero).wide.toNat=t+2:=by omega
  rw [e] at p2 p3 ⊢
  refine ⟨by simp only [List.length_set];omega,fun i c=>?_,fun i d u=>?_,fun i c=>?_,fun g=>?_⟩
  ·rw [A4e,if_neg opx,A4e,if_neg opx,p2 i opx opx];exact h.lo i c
  ·by_cases a:i=t
   ·subst a
    rw [A4e,if_neg opx,A4e,if_pos opx]
   ·by_cases b:i=t+1
    ·subst b
     rw [A4e,if_pos ⟨rfl,by rw [List.length_set];omega⟩];exact o.symm
    ·rw [A4e,if_neg opx,A4e,if_neg opx,p2 i opx opx];exact h.mid i d opx
  ·rw [A4e,if_neg opx,A4e,if_neg opx,p2 i opx opx];exact h.hi i opx
  ·rw [A4e,if_neg opx,A4e,if_neg opx];exact p3 g
 ·rw [decide_eq_false q,cond_false]
  have e:t+1+(X.getD t Cel.zero).wide.toNat=t+1:=by omega
  rw [e] at p2 p3 ⊢
  refine ⟨by simp only [List.length_set];omega,fun i c=>?_,fun i d u=>?_,fun i c=>?_,fun g=>?_⟩
  ·rw [A4e,if_neg opx,p2 i opx opx];exact h.lo i c
  ·by_cases a:i=t
   ·subst a
    rw [A4e,if_pos opx]
   ·rw [A4e,if_neg opx,p2 i opx opx];exact h.mid i d opx
  ·rw [A4e,if_neg opx,p2 i opx opx];exact h.hi i opx
  ·rw [A4e,if_neg opx];exact p3 g
def mrk (c:Cel) (cp:Int):Cel:=if c.marks.a=0 then {c with marks:={c.marks with a:=cp}} else {c with marks:={c.marks with b:=cp}}
theorem F1i (a b:Int):K4 ([a,b]:List Int) 0=if a=0 then 0 else if b=0 then 1 else -1:=by
 unfold K4
 simp only [Q1]
 by_cases h:a=0
 ·simp [h]
 ·by_cases h2:b=0
  ·simp [h,h2,show ¬ (0=a) from fun e=>h e.symm]
  ·simp [h,h2,show ¬ (0=a) from fun e=>h e.symm,show ¬ (0=b) from fun e=>h2 e.symm]
theorem E8n {X was C:List Cel} {f t e:Nat} (k:Ctx X was f) (h:Inv X was f e C) (l:f≤t) (j:t<X.length) (p:(X.getD t Cel.zero).wide≠2) (u:e=t+1+(X.getD t Cel.zero).wide.toNat) (o:RowW C) {cp:Int} (d:F6 cp=0)
  (r:(X.getD t Cel.zero).marks.a=0∨(X.getD t Cel.zero).marks.b=0):B3j C false ((e:Int) - 1) cp=(C.set t (mrk (X.getD t Cel.zero) cp),false,0):=by
 have s:=h.len;have n:=k.hx.ix t j
 have wd:=B6u n.1
 have B1f:=C8j k.hx j
 have m:e≤X.length:=by
  by_cases q:(X.getD t Cel.zero).wide=1
  ·have:=(B1f q).1;omega
  ·omega
 have g:C.getD t Cel.zero=X.getD t Cel.zero:=h.mid t l opx
 have i:A7q C false cp (t:Int)=(C.set t (mrk (X.getD t Cel.zero) cp),false,0):=by
  unfold A7q B4i B6y C2
  rw [F1i,Int.toNat_natCast,g]
  unfold mrk
  by_cases q:(X.getD t Cel.zero).marks.a=0
  ·rw [if_pos q,if_pos q];rfl
  ·rw [if_neg q,if_neg q,if_pos (r.resolve_left q)];rfl
 unfold B3j
 rw [show (e:Int) - 1=((e - 1:Nat):Int) by omega,D8u o opx,d,Int.toNat_natCast]
 simp only [decide_true,Bool.not_true,cond_false]
 by_cases q:(X.getD t Cel.zero).wide=1
 ·have c:e - 1=t+1:=by omega
  rw [c,h.mid (t+1) opx opx,(B1f q).2]
  rw [show M3 ({Cel.zero with wide:=2,sty:=(X.getD t Cel.zero).sty})=true from D6l.2 rfl,cond_true,show (((t+1:Nat):Int) - 1)=(t:Int) by omega]
  exact i
 ·have c:e - 1=t:=by omega
  rw [c,g,B4h p,cond_false]
  exact i
theorem Inv.re {X X' was C:List Cel} {f t:Nat} (h:Inv X was f t C) (c:X'.length=X.length) (d:∀ i,f≤i→i<t→X'.getD i Cel.zero=X.getD i Cel.zero):Inv X' was f t C :=
 ⟨by rw [c];exact h.len,h.lo,fun i a b=>(h.mid i a b).trans (d i a b).symm,h.hi,fun q=>h.at_ (by rw [c] at q;exact q)⟩
theorem Inv.set {X was C:List Cel} {f e t:Nat} {c:Cel} (h:Inv X was f e C) (k:f≤t) (l:t<e) (hX:t<X.length):Inv (X.set t c) was f e (C.set t c):=by
 have d:=h.len
 refine ⟨by simp only [List.length_set];exact d,fun i a=>?_,fun i g j=>?_,fun i a=>?_,fun b=>?_⟩
 ·rw [A4e,if_neg opx];exact h.lo i a
 ·rw [A4e,A4e,d];split
  ·rfl
  ·exact h.mid i g j
 ·rw [A4e,if_neg opx];exact h.hi i a
 ·rw [List.length_set] at b
  rw [A4e,if_neg opx];exact h.at_ b
theorem D2m (a b:Nat) (s:Sty):∀ (c:Nat) (l:List Cel) (t:Nat),b - a<t+c→t≤b - a→b≤l.length →
  ∀ i,(Z8 (a:Int) (b:Int) s c l t).getD i Cel.zero=if a+t≤i∧i<b then G8 s else l.getD i Cel.zero
 | 0,l,t,h,ht,hb,i=>absurd h opx
 | c+1,l,t,h,ht,hb,i=>by
  unfold Z8
  rw [Int.toNat_natCast,Int.toNat_natCast]
  by_cases q:(t:Int)<(b:Int) - (a:Int)
  ·rw [decide_eq_true q,cond_true,D2m a b s c _ (t+1) opx opx (by rw [List.length_set];exact hb),A4e]
   by_cases c1:a+(t+1)≤i∧i<b
   ·rw [if_pos c1,if_pos opx]
   ·rw [if_neg c1]
    by_cases c2:a+t=i
    ·rw [if_pos ⟨c2,by omega⟩,if_pos opx]
    ·rw [if_neg (fun z=>c2 z.1),if_neg opx]
  ·rw [decide_eq_false q,cond_false,if_neg opx]
theorem E7s {X was C:List Cel} {f t e:Nat} {s:Sty} (k:Ctx X was f) (h:Inv X was f t C) (o:f≤t) (d:t<e) (he:e≤X.length) (h2:(X.getD t Cel.zero).wide≠2) (m:D5 s=0)
  (p:∀ i,t≤i→i<e→X.getD i Cel.zero=G8 s):∃ D,B2j C false (t:Int) (e:Int) s=(D,false,0)∧Inv X was f e D:=by
 have x:=h.len;have y:=k.len
 have hC:RowW C:=h.row k o opx (fun _=>h2)
 have b:∀ a:Nat,e≤a→a≤C.length→(e<C.length→a=e∧(was.getD e Cel.zero).wide≠2∨a=e+1∧(was.getD e Cel.zero).wide=2)→Inv X was f e (A5d C (t:Int) (a:Int) s):=fun a h1 r n=>by
  have g:∀ i,(A5d C (t:Int) (a:Int) s).getD i Cel.zero=if t≤i∧i<a then G8 s else C.getD i Cel.zero:=fun i=>by
   unfold A5d
   rw [Int.toNat_natCast,Int.toNat_natCast,D2m t a s _ C 0 opx opx r]
   rfl
  refine ⟨by rw [B3c];exact x,fun i j=>?_,fun i v i2=>?_,fun i j=>?_,fun hn=>?_⟩
  ·rw [g,if_neg opx];exact h.lo i j
  ·rw [g]
   by_cases q:t≤i
   ·rw [if_pos opx];exact (p i q i2).symm
   ·rw [if_neg opx];exact h.mid i v opx
  ·rw [g,if_neg (by have:=n;by_cases z:e<C.length<;>omega)];exact h.hi i opx
  ·rcases n opx with ⟨u,c⟩ | ⟨u,c⟩
   ·left;rw [g,if_neg opx];exact ⟨c,h.hi e d⟩
   ·right;rw [g,if_pos opx];exact ⟨c,rfl,D6f m⟩
 unfold B2j
 rw [(B5n (w:=false)).2 hC,m,Int.toNat_natCast,B4h (h.at2 opx),decide_eq_false (show ¬ (t:Int)=(e:Int) by omega),show (((decide ((t:Int)<0))||(decide ((e:Int)<(t:Int))))||(decide ((C.length:Int)<(e:Int))))=false by simp only [Bool.or_eq_false_iff,decide_eq_false_iff_not];omega]
 simp only [decide_true,Bool.not_true,cond_false]
 unfold A7y
 rw [Int.toNat_natCast]
 by_cases q:e<C.length∧M3 (C.getD e Cel.zero)=true
 ·rw [q.2,decide_eq_true (show (e:Int)<(C.length:Int) by omega)]
  refine ⟨_,rfl,b (e+1) opx opx (fun _=>.inr ⟨rfl,?_⟩)⟩
  rw [← h.hi e d];exact B2n q.2
 ·have:(decide ((e:Int)<(C.length:Int))&&M3 (C.getD e Cel.zero))=false:=by
   cases z:M3 (C.getD e Cel.zero) with
   | true =>
    have:¬ e<C.length:=fun l=>q ⟨l,z⟩
    rw [decide_eq_false (show ¬ (e:Int)<(C.length:Int) by omega)];rfl
   | false=>simp
  rw [this]
  refine ⟨_,rfl,b e opx opx (fun z=>.inl ⟨rfl,fun w2=>q ⟨z,?_⟩⟩)⟩
  rw [h.hi e d];exact D5e (k.hw.ix e opx).1 w2
def two (C:List Cel) (B:Rwc Cel):List (Rwc Cel):=[⟨C,false⟩,B]
structure OkB (n:Nat) (B:Rwc Cel):Prop where
 row:G5 B.l B.b=0
 len:B.l.length=n
theorem F0f {C:List Cel} {B:Rwc Cel} (b:RowW C) (a:OkB C.length B):R8 (two C B)=0:=by
 unfold R8 two
 simp only [Z2,X4,List.getD_cons_zero,(B5n (w:=false)).2 b,a.row,a.len,decide_true,Bool.not_true,Bool.or_self,cond_false]
 rfl
theorem F4f {C D:List Cel} {B:Rwc Cel} (b:RowW C) (hD:RowW D) (c:D.length=C.length) (a:OkB C.length B):A6o (two C B) 0 D false=(two D B,0):=by
 unfold A6o
 rw [F0f b a,(B5n (w:=false)).2 hD,show decide ((D.length:Int)=X4 (two C B))=true from decide_eq_true (by unfold X4 two;show (D.length:Int)=(C.length:Int);omega)]
 rfl
theorem F3e {C D:List Cel} {B:Rwc Cel} {t e:Nat} {s:Sty} (d:RowW C) (j:OkB C.length B) (f:D5 s=0) (m:t≤e) (g:e≤C.length) (h:B2j C false (t:Int) (e:Int) s=(D,false,0)) :
  A9r (two C B) ⟨0,t⟩ ⟨0,e⟩ s=(two D B,0):=by
 have a:∀ i:Nat,i≤C.length→A3k (two C B) ⟨0,(i:Int)⟩=true:=fun i k=>by
  unfold A3k X4
  rw [decide_eq_true (show (0:Int)≤(⟨0,(i:Int)⟩:Plc).row from Int.le_refl 0),decide_eq_true (show (⟨0,(i:Int)⟩:Plc).row<((two C B).length:Int) from (by decide:(0:Int)<2)),decide_eq_true (show (0:Int)≤(⟨0,(i:Int)⟩:Plc).col from Int.natCast_nonneg i),decide_eq_true (show (⟨0,(i:Int)⟩:Plc).col≤(((two C B).getD 0 bS).l.length:Int) from by show (i:Int)≤(C.length:Int);omega)]
  rfl
 unfold A9r
 rw [F0f d j,a t opx,a e g,f]
 rw [show decide ((⟨0,(e:Int)⟩:Plc).col<(⟨0,(t:Int)⟩:Plc).col)=false from decide_eq_false (by show ¬ (e:Int)<(t:Int);omega)]
 simp only [decide_true,Bool.not_true,cond_false,Bool.or_false,Bool.false_or,Bool.and_false,Int.lt_irrefl,decide_false,C2]
 unfold A9u A8d C2
 have c:((two C B).length:Int)=2:=rfl
 rw [c,show ((2:Int) - (⟨0,(t:Int)⟩:Plc).row).toNat+1=2+1 from rfl]
 unfold P9
 rw [c]
 simp only [Int.le_refl,decide_true,show decide ((0:Int)<2)=true from rfl,Bool.and_self,cond_true]
 unfold A1w
 simp only [decide_true,cond_true]
 unfold A1v C2
 rw [show ((two C B).getD (0:Int).toNat bS).l=C from rfl,show ((two C B).getD (0:Int).toNat bS).b=false from rfl,h]
 unfold P9
 rfl
theorem D6e {x:Cel} {l:List Cel} {n m:Nat} (h:l.take n=List.replicate n x) (a:m≤n):l.take m=List.replicate m x:=by
 rw [← Nat.min_eq_left a,← List.take_take,h,List.take_replicate]
theorem C2z (x:Cel) (N:Nat):∀ (d:Nat) (l:List Cel) (n:Nat),l.length=N→1≤n→N - n<d→l.take n=List.replicate (min n N) x→J3 d l n=List.replicate N x
 | 0,l,n,hl,hn,hf,ht=>by omega
 | d+1,l,n,hl,hn,hf,ht=>by
  simp only [J3]
  by_cases c:(n:Int)<(l.length:Int)
  ·rw [decide_eq_true c,cond_true]
   have g:n<N:=by omega
   rw [Nat.min_eq_left opx] at ht
   have a:(l.take n++(l.take (min n (l.length - n))++l.drop (n+min n (l.length - n)))).length=N:=by
    simp only [List.length_append,List.length_take,List.length_drop];omega
   refine C2z x N d _ _ a opx opx ?_
   have f:=Nat.min_le_left n (l.length - n)
   have e:=Nat.min_le_right n (l.length - n)
   generalize min n (l.length - n)=m at f e ⊢
   rw [ht,D6e ht f,Nat.min_eq_left (b:=N) opx,← List.append_assoc,List.replicate_append_replicate,List.take_append_of_le_length oom,List.take_of_length_le oom]
  ·rw [decide_eq_false c,cond_false]
   rw [List.take_of_length_le opx,Nat.min_eq_right opx] at ht;exact ht
theorem E3t (x:Cel) (c:Int) (a:2≤c∧c≤80):P3 [x] c=List.replicate c.toNat x:=by
 unfold P3 C2
 rw [show ([x]:List Cel).length=1 from rfl,E2k 1 c rfl opx]
 show J3 (_ - (min 1 (List.replicate ((IntKind.i64.wrap c).toNat) Cel.zero).length)+1) (List.take (List.replicate ((IntKind.i64.wrap c).toNat) Cel.zero).length [x]++List.drop 1 (List.replicate ((IntKind.i64.wrap c).toNat) Cel.zero)) (min 1 (List.replicate ((IntKind.i64.wrap c).toNat) Cel.zero).length)=_
 rw [wr6 opx,List.length_replicate,Nat.min_eq_left opx,List.take_of_length_le (by simp;omega)]
 refine C2z x c.toNat _ _ 1 (by simp;omega) opx oom ?_
 rw [Nat.min_eq_left opx];rfl
theorem F3w:D5 Sty.zero=0:=by decide +kernel
theorem E0o (c:Int) (a:2≤c∧c≤80):C4z c Sty.zero=(List.replicate c.toNat (G8 Sty.zero),false,0):=by
 unfold C4z
 rw [F3w,decide_eq_false opx,decide_eq_false opx]
 simp only [Bool.or_self,decide_true,Bool.not_true,cond_false,C2];rw [E3t _ _ a]
theorem C3l (w:Int) (c:2≤w∧w≤80):∀ (a l:List (Rwc Cel)) (t:Nat),l.length=t+a.length→l.take t=List.replicate t ⟨List.replicate w.toNat (G8 Sty.zero),false⟩ →
  V0 w Sty.zero a l t=List.replicate (t+a.length) ⟨List.replicate w.toNat (G8 Sty.zero),false⟩
 | [],l,t,hl,ht=>by
  simp only [V0]
  rw [List.take_of_length_le (by simp at hl;omega)] at ht;exact ht
 | _::a,l,t,hl,ht=>by
  simp only [V0,C2]
  rw [E0o w c,C3l w c a _ (t+1) (by simp at hl ⊢;omega) ?_]
  ·simp [Nat.add_assoc,Nat.add_comm 1]
  ·have b:t<l.length:=by simp at hl;omega
   rw [List.take_add_one,List.take_set_of_le (Nat.le_refl _),ht,List.getElem?_set_self b,List.replicate_succ'];rfl
theorem D6n (c r:Int) (a:2≤c∧c≤80) (hr:1≤r∧r≤40):B0q c r Sty.zero=(List.replicate r.toNat ⟨List.replicate c.toNat (G8 Sty.zero),false⟩,0):=by
 unfold B0q
 rw [F3w,decide_eq_false opx,decide_eq_false opx,decide_eq_false opx,decide_eq_false opx]
 simp only [Bool.or_self,decide_true,Bool.not_true,cond_false,C2]
 unfold A7j
 rw [C3l c a _ _ 0 oom rfl]
 simp
theorem D3d (c:Int):∀ (a:Nat) (t:List Bool) (k:Nat),(A2b c a t k).2=0
 | 0,_,_=>rfl
 | a+1,t,k=>by
  simp only [A2b]
  cases decide ((k:Int)<c) with
  | true=>exact D3d c a _ _
  | false=>rfl
theorem F1x (c:Int) (a:2≤c∧c≤80):(Z5 c).2=0:=by
 unfold Z5
 rw [decide_eq_false opx,decide_eq_false opx];exact D3d _ _ _ _
theorem w64 {x:Int} (h:-1000000≤x∧x≤1000000):IntKind.i64.wrap x=x:=wr6 h
theorem C7h (c:Int):∀ (a:Nat) (t:List Bool) (k:Nat),(c - (k:Int)).toNat<a→(A2b c a t k).1.length=t.length
 | 0,_,_,h=>by omega
 | a+1,t,k,h=>by
  simp only [A2b]
  by_cases q:(k:Int)<c
  ·rw [decide_eq_true q,cond_true,C7h c a _ _ opx,List.length_set]
  ·rw [decide_eq_false q];rfl
theorem E5m (c:Int) (a:2≤c∧c≤80):((Z5 c).1.length:Int)=c:=by
 unfold Z5
 rw [decide_eq_false opx,decide_eq_false opx]
 show ((A2b c _ _ _).1.length:Int)=c
 rw [C7h _ _ _ _ opx,List.length_replicate];omega
theorem D1j (c r:Int) (a:2≤c∧c≤80) (hr:1≤r∧r≤40):X0 c r=({ScrC.zero with cols:=c,rows:=r,modes:=A6s,bottom:=r - 1},
  List.replicate r.toNat ⟨List.replicate c.toNat (G8 Sty.zero),false⟩,List.replicate r.toNat ⟨List.replicate c.toNat (G8 Sty.zero),false⟩,(Z5 c).1,0):=by
 unfold X0 C2
 rw [D6n c r a hr]
 simp only [decide_true,Bool.not_true,cond_false,F1x c a]
 rw [w64 opx]
theorem C5d:∀ (k t:Nat) (last:Cel),last.wide=0→O1 (List.replicate k (G8 Sty.zero)) t last=0
 | 0,t,last,h=>by simp [O1,h]
 | k+1,t,last,h=>by
  rw [List.replicate_succ]
  simp only [O1]
  rw [show F5 (G8 Sty.zero)=0 by decide +kernel,h,show (G8 Sty.zero).wide=0 from rfl]
  exact C5d k (t+1) _ rfl
theorem E3c (c:Int) (a:2≤c∧c≤80) (b:Bool):G5 (List.replicate c.toNat (G8 Sty.zero)) b=0:=by
 unfold G5
 rw [List.length_replicate,decide_eq_false opx,decide_eq_false opx]
 exact C5d _ _ _ rfl
theorem D0l (g:List (Rwc Cel)):∀ (l:List (Rwc Cel)) (t:Nat),(∀ r ∈ l,G5 r.l r.b=0∧(r.l.length:Int)=X4 g)→Z2 g l t=0
 | [],t,h=>rfl
 | a::l,t,h=>by
  simp only [Z2]
  obtain ⟨d,c⟩:=h a (List.mem_cons_self ..)
  rw [d,decide_eq_true c]
  exact D0l g l (t+1) fun r hr=>h r (List.mem_cons_of_mem _ hr)
theorem D6k {s:ScrC} {m a:List (Rwc Cel)} {t:List Bool} {g:List (Rwc Cel)} (hr:(g.length:Int)=s.rows) (e:1≤s.rows∧s.rows≤40) (h:∀ r ∈ g,G5 r.l r.b=0∧(r.l.length:Int)=s.cols):K8 s m a t g=true:=by
 have c:0<g.length:=by omega
 have d:((g.getD 0 bS).l.length:Int)=s.cols:=by
  have:g.getD 0 bS=g[0]:=by simp [List.getD_eq_getElem?_getD,c]
  rw [this];exact (h _ (List.getElem_mem c)).2
 unfold K8 R8
 rw [decide_eq_false (show ¬ (g.length:Int)<1 by omega),decide_eq_false (show ¬ 40<(g.length:Int) by omega),decide_eq_true hr,decide_eq_true d]
 show (decide (Z2 g g 0=0)&&true&&true)=true
 rw [D0l g g 0 fun r hr=>⟨(h r hr).1,(h r hr).2.trans (by unfold X4;exact d.symm)⟩];rfl
theorem E7x {s:ScrC} {m a:List (Rwc Cel)} {t:List Bool} (l:K1 s.rows s.cols s.top s.bottom s.modes.origin s.cursor=0) (i:O9 s.rows s.cols s.top s.bottom s.modes.origin s.kept=0)
  (f:O9 s.rows s.cols s.top s.bottom s.modes.origin s.keptAlt=0) (o:K8 s m a t m=true) (e:K8 s m a t a=true) (p:2≤s.cols∧s.cols≤80) (n:(t.length:Int)=s.cols)
  (h:D5 s.style=0) (g:V9 s.sets=0) (b:A9k s.modes=0) (k:0≤s.shape∧s.shape≤6) (c:H0 {Act.zero with kind:=44,text:=s.title}=0) (d:s.last=0):A0q s m a t=0:=by
 have j:A5x s.cols=0:=by unfold A5x;rw [decide_eq_false opx,decide_eq_false opx];rfl
 unfold A0q A2r A0g C2
 simp only [l,i,f,decide_true,Bool.not_true,cond_false]
 unfold U4
 simp only [o,e,j,n,decide_true,Bool.not_true,cond_false]
 unfold Q8
 simp only [h,g,b,decide_true,Bool.not_true,cond_false]
 unfold U5
 rw [decide_eq_false (show ¬ s.shape<0 by omega),decide_eq_false (show ¬ 6<s.shape by omega),c,d]
 rfl
theorem E2o {r c:Int} (a:2≤c∧c≤80) (hr:1≤r∧r≤40):A2h r c 0 (r - 1) false=0:=by
 unfold A2h
 rw [decide_eq_true (show (1:Int)≤r by omega),decide_eq_true (show r≤40 by omega),decide_eq_true a.1,decide_eq_true a.2,decide_eq_true (show r - 1<r by omega),decide_eq_false (show ¬ r - 1<0 by omega)]
 by_cases h:r=1
 ·subst h;rfl
 ·rw [decide_eq_true (show (0:Int)<r - 1 by omega)];rfl
theorem D0y {n a b:Int} (h:a≤n∧n≤b):A6g n a b=n:=by
 unfold A6g
 rw [if_neg (show ¬ b<n by omega)]
 split<;>omega
theorem E4s {r c:Int} (a:2≤c∧c≤80) (hr:1≤r∧r≤40) {u:Cur} (e:0≤u.row∧u.row<r) (d:0≤u.col∧u.col<c) (b:u.wrap=false):K1 r c 0 (r - 1) false u=0:=by
 unfold K1 A6c O5
 rw [E2o a hr,w64 (show -1000000≤r - 1∧r - 1≤1000000 by omega),w64 (show -1000000≤c - 1∧c - 1≤1000000 by omega),D0y (show 0≤u.row∧u.row≤r - 1 by omega),D0y (show 0≤u.col∧u.col≤c - 1 by omega),b]
 simp
theorem D3a {r c:Int} (a:2≤c∧c≤80) (hr:1≤r∧r≤40):O9 r c 0 (r - 1) false Sav.zero=0:=by
 unfold O9
 rw [E2o a hr,E4s a hr (u:=Sav.zero.cursor) ⟨by decide,show (0:Int)<r by omega⟩ ⟨by decide,show (0:Int)<c by omega⟩ rfl]
 simp [Sav.zero]
theorem F0m:H0 {Act.zero with kind:=44,text:=[]}=0:=by decide +kernel
theorem F1h {r c:Int} (a:2≤c∧c≤80) {n:Int} (h:0≤n∧n<c):O5 r c 0 (r - 1) false n=n:=by
 unfold O5
 rw [w64 (show -1000000≤c - 1∧c - 1≤1000000 by omega),D0y opx]
theorem E5q (l:List Act) (ag:List UInt8→Int→List UInt8×Int) (a:∀ b t,(ag b t).2=0):∀ (c:Nat) (b:List UInt8) (t n:Int),(A0r l ag c b t n).2=0
 | 0,_,_,_=>rfl
 | c+1,b,t,n=>by
  simp only [A0r,C2]
  cases (((decide (n<(l.length:Int)))&&(decide (n<(t+16))))&&(decide ((l.getD ((n).toNat) Act.zero).kind=39))) with
  | true=>exact E5q l ag a c _ _ _
  | false=>cases decide (n=t)<;>exact a _ _
theorem E5h (l:List Act):∀ (a:Nat) (b:List UInt8) (t:Int),(Y8 l a b t).2=0
 | 0,_,_=>rfl
 | a+1,b,t=>by
  simp only [Y8]
  cases decide (t<(l.length:Int)) with
  | true=>exact E5q l _ (fun b t=>E5h l a b t) _ _ _ _
  | false=>rfl
theorem E0z (L:List Act):∀ (l:List Act) (i:Nat),(W6 L l i).2=0 ↔ ∀ a ∈ l,H0 a=0
 | [],i=>⟨fun _ a b=>(by cases b),fun _=>E5h L _ _ _⟩
 | a::l,i=>by
  simp only [W6,List.forall_mem_cons]
  cases h:decide (H0 a=0) with
  | true=>exact ⟨fun q=>⟨of_decide_eq_true h,(E0z L l (i+1)).1 q⟩,fun q=>(E0z L l (i+1)).2 q.2⟩
  | false=>exact ⟨fun q=>absurd q (of_decide_eq_false h),fun q=>absurd q.1 (of_decide_eq_false h)⟩
theorem C3g {l:List Act} (b:l.length≤1000):(N8 l).2=0 ↔ ∀ a ∈ l,H0 a=0:=by
 unfold N8;rw [decide_eq_false opx];exact E0z l l 0
structure Scr (b:ScrC) (n:Nat):Prop where
 off:b.onAlt=false
 ins:b.modes.insert=false
 sets:b.sets=Sts.zero
 cols:b.cols=n
 rows:b.rows=2
 top:b.top=0
 bottom:b.bottom=1
 org:b.modes.origin=false
def U7 (n e:Nat):Cur:=if e=n then ⟨0,(n:Int) - 1,true⟩ else ⟨0,e,false⟩
def scr (b:ScrC) (c:Cur) (s:Sty) (la:Int):ScrC:={b with cursor:=c,style:=s,last:=la}
theorem B8x {n e:Nat} (h:e<n):U7 n e=⟨0,e,false⟩:=if_neg opx
theorem D4s {X:List Cel} (h:RowW X) {t:Nat} (b:t<X.length) (f:(X.getD t Cel.zero).wide≠2):t+1+(X.getD t Cel.zero).wide.toNat≤X.length∧(t+1+(X.getD t Cel.zero).wide.toNat<X.length→(X.getD (t+1+(X.getD t Cel.zero).wide.toNat) Cel.zero).wide≠2):=by
 have wd:=B6u (h.ix t b).1
 by_cases q:(X.getD t Cel.zero).wide=1
 ·obtain ⟨d,c⟩:=C8j h b q
  rw [show t+1+(X.getD t Cel.zero).wide.toNat=t+1+1 by omega]
  refine ⟨by omega,fun a e=>?_⟩
  have:=(h.ix (t+1+1) a).2.1.2 e
  rw [B4u (show 0<t+1+1 by omega),Nat.add_sub_cancel,c] at this
  exact absurd this (by show ¬ ((2:Int)=1);decide)
 ·rw [show t+1+(X.getD t Cel.zero).wide.toNat=t+1 by omega]
  refine ⟨by omega,fun a e=>?_⟩
  have:=(h.ix (t+1) a).2.1.2 e
  rw [B4u (show 0<t+1 by omega),Nat.add_sub_cancel] at this
  exact q this
section
variable {X was C:List Cel} {f t e n:Nat} {B:Rwc Cel} {b:ScrC} {s:Sty} {la:Int} {al:List (Rwc Cel)} {tb:List Bool}
theorem E2e (c:Scr b n) (k:Ctx X was f) (hn:n=X.length) (h:Inv X was f t C) (m:f≤t) (l:t<X.length) (g:(X.getD t Cel.zero).wide≠2) (hB:OkB X.length B) (v:(X.getD t Cel.zero).sty=s) (hm:(X.getD t Cel.zero).marks=Ar2.zero) :
  ∃ D,I3 (scr b (U7 n t) s la) (two C B) al tb (X.getD t Cel.zero).base=(scr b (U7 n (t+1+(X.getD t Cel.zero).wide.toNat)) s (X.getD t Cel.zero).base,two D B)∧Inv X was f (t+1+(X.getD t Cel.zero).wide.toNat) D ∧
   C1j (scr b (U7 n t) s la) (two C B) (X.getD t Cel.zero).base:=by
 have p:=k.hx.ix t l
 have wd:=B6u p.1
 have o:=h.len;have z:=k.hx.len
 obtain ⟨x,n2⟩:=D4s k.hx l g
 have e:F6 (X.getD t Cel.zero).base=(X.getD t Cel.zero).wide+1:=((A6v.1 p.1).1.resolve_left (by rw [B4h g];exact Bool.false_ne_true)).2.1
 obtain ⟨D,hD,j⟩:=F0y k h m l g
 have u:RowW C:=h.row k m opx (fun _=>g)
 have i:RowW D:=j.row k opx x n2
 have a:({Cel.zero with base:=(X.getD t Cel.zero).base,wide:=IntKind.i64.wrap (F6 (X.getD t Cel.zero).base - (1:Int)),sty:=s}:Cel)=X.getD t Cel.zero:=by
  rw [e,w64 opx,show (X.getD t Cel.zero).wide+1 - 1=(X.getD t Cel.zero).wide by omega,← v]
  show (⟨(X.getD t Cel.zero).base,Ar2.zero,(X.getD t Cel.zero).wide,(X.getD t Cel.zero).sty⟩:Cel)=_
  rw [← hm]
 have d:∀ y:ScrC,y.cursor.row=0→y.style=s→U1 y (two C B) al tb (t:Int) (F6 (X.getD t Cel.zero).base) (X.getD t Cel.zero).base=two D B:=fun y w r=>by
  unfold U1 A6 C2
  rw [w,r]
  show (A6o (two C B) 0 (B6v C false (t:Int) {Cel.zero with base:=(X.getD t Cel.zero).base,wide:=IntKind.i64.wrap (F6 (X.getD t Cel.zero).base - (1:Int)),sty:=s}).1 (B6v C false (t:Int) {Cel.zero with base:=(X.getD t Cel.zero).base,wide:=IntKind.i64.wrap (F6 (X.getD t Cel.zero).base - (1:Int)),sty:=s}).2.1).1=two D B
  rw [a,hD]
  show (A6o (two C B) 0 D false).1=two D B
  rw [F4f u i (by rw [j.len,o]) (by rw [o];exact hB)]
 rw [B8x (show t<n by omega)]
 refine ⟨D,?_,j,c.off,c.ins,⟨Int.le_refl 0,by show (0:Int)<2;decide⟩,.inr ⟨rfl,by show 0≤(t:Int)+F6 _;rw [e];omega,by show (t:Int)+F6 _≤b.cols;rw [e,c.cols];omega,by show b.cols≤1000;rw [c.cols];omega⟩⟩
 unfold I3
 rw [decide_eq_false (show ¬ F6 (X.getD t Cel.zero).base=0 by omega),cond_false]
 show (bif decide (IntKind.i64.wrap ((t:Int)+F6 (X.getD t Cel.zero).base)=b.cols) then (scr b ⟨0,IntKind.i64.wrap (b.cols - 1),true⟩ s (X.getD t Cel.zero).base,U1 (scr b ⟨0,t,false⟩ s la) (two C B) al tb (t:Int) (F6 (X.getD t Cel.zero).base) (X.getD t Cel.zero).base) else (scr b ⟨0,IntKind.i64.wrap ((t:Int)+F6 (X.getD t Cel.zero).base),false⟩ s (X.getD t Cel.zero).base,U1 (scr b ⟨0,t,false⟩ s la) (two C B) al tb (t:Int) (F6 (X.getD t Cel.zero).base) (X.getD t Cel.zero).base))=_
 rw [d (scr b ⟨0,t,false⟩ s la) rfl rfl,e,c.cols,w64 opx,w64 opx]
 unfold U7
 by_cases q:t+1+(X.getD t Cel.zero).wide.toNat=n
 ·rw [decide_eq_true opx,if_pos q];rfl
 ·rw [decide_eq_false opx,if_neg q,show (t:Int)+((X.getD t Cel.zero).wide+1)=((t+1+(X.getD t Cel.zero).wide.toNat:Nat):Int) by omega];rfl
theorem D7x (r:Scr b n) (k:Ctx X was f) (hn:n=X.length) (h:Inv X was f e C) (p:f≤t) (g:t<X.length) (w:(X.getD t Cel.zero).wide≠2) (z:e=t+1+(X.getD t Cel.zero).wide.toNat) (hB:OkB X.length B) {cp:Int} (c:F6 cp=0)
  (hm:(X.getD t Cel.zero).marks.a=0∨(X.getD t Cel.zero).marks.b=0) (hX:F5 (mrk (X.getD t Cel.zero) cp)=0) :
  I3 (scr b (U7 n e) s la) (two C B) al tb cp=(scr b (U7 n e) s la,two (C.set t (mrk (X.getD t Cel.zero) cp)) B)∧Ctx (X.set t (mrk (X.getD t Cel.zero) cp)) was f∧Inv (X.set t (mrk (X.getD t Cel.zero) cp)) was f e (C.set t (mrk (X.getD t Cel.zero) cp)) ∧
   C1j (scr b (U7 n e) s la) (two C B) cp:=by
 have u:=h.len;have a1:=k.hx.len;have wd:=B6u (k.hx.ix t g).1
 obtain ⟨m,n2⟩:=D4s k.hx g w
 rw [← z] at m n2
 have v:RowW C:=h.row k opx m n2
 have o:(mrk (X.getD t Cel.zero) cp).wide=(X.getD t Cel.zero).wide∧(mrk (X.getD t Cel.zero) cp).sty=(X.getD t Cel.zero).sty:=by unfold mrk;split<;>exact ⟨rfl,rfl⟩
 have i:RowW (X.set t (mrk (X.getD t Cel.zero) cp)):=k.hx.set hX o.1 o.2
 have x:Ctx (X.set t (mrk (X.getD t Cel.zero) cp)) was f:=⟨i,k.hw,by rw [List.length_set];exact k.len,by rw [List.length_set];exact k.lt,by
  rw [A4e];split
  ·rename_i q;rw [o.1,q.1];exact k.fx
  ·exact k.fx,k.fw⟩
 have l:Inv (X.set t (mrk (X.getD t Cel.zero) cp)) was f e (C.set t (mrk (X.getD t Cel.zero) cp)):=h.set p opx g
 have j:RowW (C.set t (mrk (X.getD t Cel.zero) cp)):=l.row x opx (by rw [List.length_set];exact m) (fun q=>by rw [List.length_set] at q;rw [A4e,if_neg opx];exact n2 q)
 refine ⟨?_,x,l,r.off,r.ins,?_,.inl c⟩
 ·have d:∀ y:ScrC,y.cursor.row=0→A0h y (two C B) al tb ((e:Int) - 1) cp=two (C.set t (mrk (X.getD t Cel.zero) cp)) B:=fun y h1=>by
   unfold A0h B9 C2
   rw [h1]
   show (A6o (two C B) 0 (B3j C false ((e:Int) - 1) cp).1 (B3j C false ((e:Int) - 1) cp).2.1).1=_
   rw [E8n k h p g w z v c hm]
   show (A6o (two C B) 0 _ false).1=_
   rw [F4f v j (by rw [l.len,List.length_set,u]) (by rw [u];exact hB)]
  unfold I3
  rw [decide_eq_true c,cond_true]
  unfold A4z C2
  by_cases q:e=n
  ·rw [show U7 n e=⟨0,(n:Int) - 1,true⟩ from if_pos q]
   show ((scr b ⟨0,(n:Int) - 1,true⟩ s la),Q5 (scr b ⟨0,(n:Int) - 1,true⟩ s la) (two C B) al tb cp ((n:Int) - 1))=_
   unfold Q5 C2
   rw [decide_eq_true (show (0:Int)≤(n:Int) - 1 by omega),cond_true,← q,d _ rfl]
  ·rw [show U7 n e=⟨0,e,false⟩ from if_neg q]
   show ((scr b ⟨0,e,false⟩ s la),Q5 (scr b ⟨0,e,false⟩ s la) (two C B) al tb cp (IntKind.i64.wrap ((e:Int) - 1)))=_
   unfold Q5 C2
   rw [w64 opx,decide_eq_true (show (0:Int)≤(e:Int) - 1 by omega),cond_true,d _ rfl]
 ·unfold scr U7;split<;>exact ⟨Int.le_refl 0,by show (0:Int)<2;decide⟩
def Lds (al:List (Rwc Cel)) (tb:List Bool):List Act→ScrC×List (Rwc Cel)→ScrC×List (Rwc Cel)→Prop
 | [],p,q=>p=q
 | a::l,p,q=>(E1a al tb p.1 p.2 a∧p5 a)∧Lds al tb l (plS al tb p.1 p.2 a) q
theorem Lds.app:∀ {l m:List Act} {p q r:ScrC×List (Rwc Cel)},Lds al tb l p q→Lds al tb m q r→Lds al tb (l++m) p r
 | [],m,p,q,r,h,h2=>by cases h;exact h2
 | a::l,m,p,q,r,h,h2=>⟨h.1,Lds.app h.2 h2⟩
theorem Lds.one {a:Act} {p q:ScrC×List (Rwc Cel)} (h:E1a al tb p.1 p.2 a) (b:p5 a) (e:plS al tb p.1 p.2 a=q):Lds al tb [a] p q:=⟨⟨h,b⟩,e⟩
theorem Lds.ok:∀ {l:List Act} {p q:ScrC×List (Rwc Cel)},Lds al tb l p q→D7v al tb l p.1 p.2∧∀ a ∈ l,p5 a
 | [],p,q,h=>⟨trivial,fun a c=>by cases c⟩
 | a::l,p,q,h=>⟨⟨h.1.1,(Lds.ok h.2).1⟩,fun x b=>by
  rcases List.mem_cons.1 b with rfl | b
  ·exact h.1.2
  ·exact (Lds.ok h.2).2 x b⟩
theorem E6d {x:ScrC} {m:List (Rwc Cel)} (h:x.sets=Sts.zero) (n:Int) (k a:Int) (c:Col) (tx:List UInt8):Y2 x m al tb ⟨k,n,a,c,tx⟩=I3 x m al tb n:=by
 have e:M8 x.sets n=(n,Sts.zero,0):=by rw [h];unfold M8;rw [show V9 Sts.zero=0 by decide +kernel];rfl
 unfold Y2 C2
 dsimp only
 rw [e]
 dsimp only
 rw [← h]
theorem E0n {x:ScrC} {m:List (Rwc Cel)} {n:Int} {q:ScrC×List (Rwc Cel)} (b:x.onAlt=false) (a:x.sets=Sts.zero) (c:C1j x m n) (e:I3 x m al tb n=q):Lds al tb [ch n] (x,m) q:=by
 refine Lds.one ⟨b,a,fun _=>c,fun h=>absurd h (by show ¬ ((1:Int)=34);decide)⟩ ⟨.inl rfl,by show ([]:List UInt8).length≤1;decide⟩ ?_
 unfold plS
 rw [if_pos (show (ch n).kind=1 from rfl)]
 exact (E6d a n _ _ _ _).trans e
end
theorem C2s (m:Ar2):Y4 m=true ↔ (m.a≠0→F6 m.a=0)∧(m.b≠0→m.a≠0∧F6 m.b=0):=by
 unfold Y4
 by_cases h1:m.a=0<;>by_cases h2:m.b=0<;>by_cases h3:F6 m.a=0<;>by_cases h4:F6 m.b=0<;>simp_all
theorem Ctx.set {X was:List Cel} {f t:Nat} {c:Cel} (k:Ctx X was f) (d:F5 c=0) (a:c.wide=(X.getD t Cel.zero).wide) (b:c.sty=(X.getD t Cel.zero).sty):Ctx (X.set t c) was f :=
 ⟨k.hx.set d a b,k.hw,by rw [List.length_set];exact k.len,by rw [List.length_set];exact k.lt,by
  rw [A4e];split
  ·rename_i q;rw [a,q.1];exact k.fx
  ·exact k.fx,k.fw⟩
section
variable {x was C:List Cel} {f t e n:Nat} {B:Rwc Cel} {b:ScrC} {s:Sty} {la:Int} {al:List (Rwc Cel)} {tb:List Bool}
theorem D7q (j:Scr b n) (k:Ctx x was f) (hn:n=x.length) (h:Inv x was f t C) (hf:f≤t) (r:t<x.length) (h2:(x.getD t Cel.zero).wide≠2) (hB:OkB x.length B) (hs:(x.getD t Cel.zero).sty=s) :
  ∃ D,Lds al tb (sgn (x.getD t Cel.zero)) (scr b (U7 n t) s la,two C B) (scr b (U7 n (t+1+(x.getD t Cel.zero).wide.toNat)) s (x.getD t Cel.zero).base,two D B)∧Inv x was f (t+1+(x.getD t Cel.zero).wide.toNat) D:=by
 have hx:=k.hx.ix t r
 have hc:=A6v.1 hx.1
 have p:=hc.1.resolve_left (by rw [B4h h2];exact Bool.false_ne_true)
 have o:=(C2s _).1 p.2.2
 have u:∀ m:Ar2,Y4 m=true→F5 {x.getD t Cel.zero with marks:=m}=0:=fun m hm=>A6v.2 ⟨.inr ⟨p.1,p.2.1,hm⟩,hc.2⟩
 have hz:Y4 Ar2.zero=true:=by decide +kernel
 have c0:=u Ar2.zero hz
 have k0:Ctx (x.set t {x.getD t Cel.zero with marks:=Ar2.zero}) was f:=k.set c0 rfl rfl
 have c:(x.set t {x.getD t Cel.zero with marks:=Ar2.zero}).getD t Cel.zero={x.getD t Cel.zero with marks:=Ar2.zero}:=by rw [A4e,if_pos ⟨rfl,r⟩]
 have l:(x.set t {x.getD t Cel.zero with marks:=Ar2.zero}).length=x.length:=List.length_set
 have h0:Inv (x.set t {x.getD t Cel.zero with marks:=Ar2.zero}) was f t C:=h.re l (fun i _ w=>by rw [A4e,if_neg opx])
 obtain ⟨D0,p0,y,o0⟩:=E2e (la:=la) (al:=al) (tb:=tb) (s:=s) j k0 (by rw [l];exact hn) h0 hf (by rw [l];exact r) (by rw [c];exact h2) (by rw [l];exact hB) (by rw [c];exact hs) (by rw [c])
 rw [c] at p0 y o0
 dsimp only at p0 y o0
 have r0:Lds al tb [ch (x.getD t Cel.zero).base] (scr b (U7 n t) s la,two C B) _:=E0n j.off j.sets o0 p0
 by_cases ha:(x.getD t Cel.zero).marks.a=0
 ·have d:(x.getD t Cel.zero).marks.b=0:=by
   by_cases q:(x.getD t Cel.zero).marks.b=0
   ·exact q
   ·exact absurd ha (o.2 q).1
  have a6:(x.getD t Cel.zero).marks=Ar2.zero:=by
   rw [show (x.getD t Cel.zero).marks=⟨(x.getD t Cel.zero).marks.a,(x.getD t Cel.zero).marks.b⟩ from rfl,ha,d];rfl
  have g:sgn (x.getD t Cel.zero)=[ch (x.getD t Cel.zero).base]:=by unfold sgn C1x;rw [if_pos ha,if_pos d];rfl
  refine ⟨D0,by rw [g];exact r0,y.re l.symm (fun i _ _=>?_)⟩
  rw [A4e];split
  ·rename_i q;rw [← q.1,← a6]
  ·rfl
 ·have v:=o.1 ha
  have a4:Y4 ⟨(x.getD t Cel.zero).marks.a,0⟩=true:=(C2s _).2 ⟨fun _=>v,fun q=>absurd rfl q⟩
  have m1:mrk {x.getD t Cel.zero with marks:=Ar2.zero} (x.getD t Cel.zero).marks.a={x.getD t Cel.zero with marks:=⟨(x.getD t Cel.zero).marks.a,0⟩}:=by unfold mrk;exact if_pos rfl
  obtain ⟨p1,k1,z,o1⟩:=D7x (la:=(x.getD t Cel.zero).base) (al:=al) (tb:=tb) (s:=s) (t:=t) (cp:=(x.getD t Cel.zero).marks.a) (B:=B) j k0 (by rw [l];exact hn) y hf (by rw [l];exact r) (by rw [c];exact h2) (by rw [c]) (by rw [l];exact hB) v (.inl (by rw [c];rfl)) (by rw [c,m1];exact u _ a4)
  rw [c,m1] at p1 k1 z
  rw [List.set_set] at k1 z
  have r1:=Lds.app r0 (E0n (al:=al) (tb:=tb) j.off j.sets o1 p1)
  by_cases d:(x.getD t Cel.zero).marks.b=0
  ·have g:sgn (x.getD t Cel.zero)=[ch (x.getD t Cel.zero).base]++[ch (x.getD t Cel.zero).marks.a]:=by unfold sgn C1x;rw [if_neg ha,if_pos d];rfl
   refine ⟨_,by rw [g];exact r1,z.re List.length_set.symm (fun i _ _=>?_)⟩
   rw [A4e];split
   ·rename_i q;rw [← q.1,← d]
   ·rfl
  ·have a9:=(o.2 d).2
   have e:(x.set t {x.getD t Cel.zero with marks:=⟨(x.getD t Cel.zero).marks.a,0⟩}).getD t Cel.zero={x.getD t Cel.zero with marks:=⟨(x.getD t Cel.zero).marks.a,0⟩}:=by rw [A4e,if_pos ⟨rfl,r⟩]
   have m2:mrk {x.getD t Cel.zero with marks:=⟨(x.getD t Cel.zero).marks.a,0⟩} (x.getD t Cel.zero).marks.b=x.getD t Cel.zero:=by unfold mrk;rw [if_neg ha]
   have l1:(x.set t {x.getD t Cel.zero with marks:=⟨(x.getD t Cel.zero).marks.a,0⟩}).length=x.length:=List.length_set
   obtain ⟨p2,k2,w,o2⟩:=D7x (la:=(x.getD t Cel.zero).base) (al:=al) (tb:=tb) (s:=s) (t:=t) (cp:=(x.getD t Cel.zero).marks.b) (B:=B) j k1 (by rw [l1];exact hn) z hf (by rw [l1];exact r) (by rw [e];exact h2) (by rw [e]) (by rw [l1];exact hB) a9 (.inr (by rw [e])) (by rw [e,m2];exact hx.1)
   rw [e,m2] at p2 w
   rw [List.set_set] at w
   have r2:=Lds.app r1 (E0n (al:=al) (tb:=tb) j.off j.sets o2 p2)
   have g:sgn (x.getD t Cel.zero)=([ch (x.getD t Cel.zero).base]++[ch (x.getD t Cel.zero).marks.a])++[ch (x.getD t Cel.zero).marks.b]:=by unfold sgn C1x;rw [if_neg ha,if_neg d];rfl
   refine ⟨_,by rw [g];exact r2,w.re List.length_set.symm (fun i _ _=>?_)⟩
   rw [A4e];split
   ·rename_i q;rw [← q.1]
   ·rfl
theorem D3c (i:Scr b n) (k:Ctx x was f) (p:n=x.length) (u:OkB x.length B) {c:Cel} (d:c.wide≠2) (q:c.sty=s):∀ (m t:Nat) (C:List Cel) (la:Int),Inv x was f t C→f≤t→(∀ j<m,t+j * (1+c.wide.toNat)<x.length∧x.getD (t+j * (1+c.wide.toNat)) Cel.zero=c) →
  ∃ D g,Lds al tb (rep m (sgn c)) (scr b (U7 n t) s la,two C B) (scr b (U7 n (t+m * (1+c.wide.toNat))) s g,two D B)∧Inv x was f (t+m * (1+c.wide.toNat)) D
 | 0,t,C,la,h,hf,hc=>⟨C,la,by rw [Nat.zero_mul];exact rfl,by rw [Nat.zero_mul];exact h⟩
 | m+1,t,C,la,h,hf,hc=>by
  have a:=hc 0 (Nat.succ_pos m)
  rw [Nat.zero_mul,Nat.add_zero] at a
  obtain ⟨D,l,o⟩:=D7q (la:=la) (al:=al) (tb:=tb) (s:=s) i k p h hf a.1 (by rw [a.2];exact d) u (by rw [a.2];exact q)
  rw [a.2] at l o
  obtain ⟨D2,e,v,r⟩:=D3c i k p u d q m (t+1+c.wide.toNat) D c.base o opx (fun j y=>by
   have:=hc (j+1) opx
   rw [Nat.succ_mul] at this
   rw [show t+1+c.wide.toNat+j * (1+c.wide.toNat)=t+(j * (1+c.wide.toNat)+(1+c.wide.toNat)) by omega];exact this)
  have w:t+1+c.wide.toNat+m * (1+c.wide.toNat)=t+(m+1) * (1+c.wide.toNat):=by rw [Nat.succ_mul];omega
  rw [w] at v r
  exact ⟨D2,e,by rw [C5i];exact Lds.app l v,r⟩
theorem E5c (m:Scr b n) (k:Ctx x was f) (q:n=x.length) (v:OkB x.length B) {c:Cel} (e:c.wide=0) (w:c.marks=Ar2.zero) (u:c.sty=s) (a:Act) (y:ScrC) (N:Nat) (l:(if (IntKind.i64.wrap (y.rows * y.cols))<a.n then (IntKind.i64.wrap (y.rows * y.cols)) else a.n)=(N:Int)) :
  ∀ (r g j t:Nat) (C:List Cel),j+r=N→r<g→Inv x was f t C→f≤t→(∀ i<r,t+i<x.length∧x.getD (t+i) Cel.zero=c) →
  ∃ D,O8 y al tb a g j (scr b (U7 n t) s c.base) (two C B)=(scr b (U7 n (t+r)) s c.base,two D B)∧Inv x was f (t+r) D∧B8q al tb r (scr b (U7 n t) s c.base) (two C B)
 | r,0,j,t,C,_,hfu,_,_,_=>absurd hfu (Nat.not_lt_zero r)
 | 0,g+1,j,t,C,hj,_,h,hf,hc=>by
  refine ⟨C,?_,h,trivial⟩
  unfold O8
  rw [l,decide_eq_false opx];rfl
 | r+1,g+1,j,t,C,hj,hfu,h,hf,hc=>by
  have d:=hc 0 (Nat.succ_pos r)
  rw [Nat.add_zero] at d
  obtain ⟨D,p,i,o⟩:=E2e (la:=c.base) (al:=al) (tb:=tb) (s:=s) m k q h hf d.1 (by rw [d.2,e];decide) v (by rw [d.2];exact u) (by rw [d.2];exact w)
  rw [d.2,e] at p i
  rw [d.2] at o
  obtain ⟨D2,p2,i2,z⟩:=E5c m k q v e w u a y N l r g (j+1) (t+1) D opx opx i opx (fun i hi=>by
   have:=hc (i+1) opx
   rw [show t+1+i=t+(i+1) by omega];exact this)
  refine ⟨D2,?_,by rw [show t+(r+1)=t+1+r by omega];exact i2,o,?_⟩
  ·unfold O8
   rw [l,decide_eq_true opx,cond_true]
   show (C2 (I3 (scr b (U7 n t) s c.base) (two C B) al tb c.base) _)=_
   rw [p]
   rw [show t+(r+1)=t+1+r by omega];exact p2
  ·show B8q al tb r (I3 (scr b (U7 n t) s c.base) (two C B) al tb c.base).1 (I3 (scr b (U7 n t) s c.base) (two C B) al tb c.base).2
   rw [p];exact z
theorem E0q (d:Scr b n) (k:Ctx x was f) (u:n=x.length) (y:OkB x.length B) {c:Cel} (g:F5 c=0) (a:c.wide=0) (z:c.marks=Ar2.zero) (v:c.sty=s) {N:Nat} (h:Inv x was f t C) (r:f≤t) (m:∀ i<N,t+i<x.length∧x.getD (t+i) Cel.zero=c) (hN:0<N) :
  ∃ D,Lds al tb [{Act.zero with kind:=34,n:=(N:Int)}] (scr b (U7 n t) s c.base,two C B) (scr b (U7 n (t+N)) s c.base,two D B)∧Inv x was f (t+N) D:=by
 have w:=k.hx.len
 have hl:=(m (N - 1) opx).1
 have l:F6 c.base=1:=by
  have:=((A6v.1 g).1.resolve_left (by rw [B4h (by rw [a];decide)];exact Bool.false_ne_true)).2.1
  rw [a] at this;exact this
 have j:c.base≠0:=fun e=>by rw [e] at l;exact absurd l (by decide +kernel)
 obtain ⟨D,p,i,o⟩:=E5c (al:=al) (tb:=tb) d k u y a z v ({Act.zero with kind:=34,n:=(N:Int)}) (scr b (U7 n t) s c.base) N (by
  show (if IntKind.i64.wrap (b.rows * b.cols)<(N:Int) then _ else (N:Int))=(N:Int)
  rw [d.rows,d.cols,w64 opx,if_neg opx]) N (N+1) 0 t C opx opx h r m
 refine ⟨D,Lds.one ⟨d.off,d.sets,fun q=>absurd q (by show ¬ ((34:Int)=1);decide),fun _=>?_⟩ ⟨.inr (.inl rfl),by show ([]:List UInt8).length≤1;decide⟩ ?_,i⟩
 ·refine ⟨by show (N:Int)≤1000000;omega,?_⟩
  show B8q al tb ((N:Int)).toNat _ _
  rw [Int.toNat_natCast];exact o
 ·unfold plS
  rw [if_neg (by show ¬ ((34:Int)=1);decide),if_pos rfl]
  unfold A0e
  rw [decide_eq_false (show ¬ (scr b (U7 n t) s c.base).last=0 from j),cond_false]
  show O8 _ al tb _ (((N:Int) - (0:Int)).toNat+1) 0 _ _=_
  rw [show ((N:Int) - (0:Int)).toNat+1=N+1 by omega]
  exact p
theorem E3h (c:Scr b n) (k:Ctx x was f) (y:n=x.length) (v:OkB x.length B) (g:D5 s=0) {N:Nat} (h:Inv x was f t C) (j:f≤t) (l:(x.getD t Cel.zero).wide≠2) (w:0<N) (m:t+N≤x.length) (u:∀ i,t≤i→i<t+N→x.getD i Cel.zero=G8 {Sty.zero with back:=s.back}) :
  ∃ D,Lds al tb [{Act.zero with kind:=30,n:=(N:Int)}] (scr b (U7 n t) s la,two C B) (scr b (U7 n t) s 0,two D B)∧Inv x was f (t+N) D:=by
 have r:=k.hx.len
 have d:=h.len
 have o:RowW C:=h.row k j opx (fun _=>l)
 have a:D5 {Sty.zero with back:=s.back}=0:=D7b D7w g
 obtain ⟨D,p,i⟩:=E7s k h j (show t<t+N by omega) m l a u
 refine ⟨D,Lds.one ⟨c.off,c.sets,fun q=>absurd q (by show ¬ ((30:Int)=1);decide),fun q=>absurd q (by show ¬ ((30:Int)=34);decide)⟩ ⟨.inr (.inr (.inr (.inl rfl))),by show ([]:List UInt8).length≤1;decide⟩ ?_,i⟩
 unfold plS
 rw [if_neg (by show ¬ ((30:Int)=1);decide),if_neg (by show ¬ ((30:Int)=34);decide),if_neg (by show ¬ ((30:Int)=39);decide),if_pos rfl,B8x (show t<n by omega)]
 show ((scr b ⟨0,t,false⟩ s 0),Y1 (scr b ⟨0,t,false⟩ s 0) (two C B) al tb ⟨30,N,0,Col.zero,[]⟩)=_
 have e:Y1 (scr b ⟨0,t,false⟩ s 0) (two C B) al tb ⟨30,N,0,Col.zero,[]⟩=(A9r (two C B) ⟨0,t⟩ ⟨0,(if IntKind.i64.wrap ((t:Int)+(N:Int))<b.cols then IntKind.i64.wrap ((t:Int)+(N:Int)) else b.cols)⟩ {Sty.zero with back:=s.back}).1:=rfl
 rw [e,c.cols,w64 opx,show (if (t:Int)+(N:Int)<(n:Int) then (t:Int)+(N:Int) else (n:Int))=((t+N:Nat):Int) by split<;>omega,F3e o (by rw [d];exact v) a opx opx p]
theorem E7r (a:Scr b n) (g:2≤n∧n≤80) {N:Nat} (h:t+N<n) {m:List (Rwc Cel)}:Lds al tb [{Act.zero with kind:=20,n:=2,m:=(N:Int)}] (scr b (U7 n t) s la,m) (scr b (U7 n (t+N)) s 0,m):=by
 refine Lds.one ⟨a.off,a.sets,fun q=>absurd q (by show ¬ ((20:Int)=1);decide),fun q=>absurd q (by show ¬ ((20:Int)=34);decide)⟩ ⟨.inr (.inr (.inr (.inr ⟨rfl,rfl⟩))),by show ([]:List UInt8).length≤1;decide⟩ ?_
 unfold plS
 rw [if_neg (by show ¬ ((20:Int)=1);decide),if_neg (by show ¬ ((20:Int)=34);decide),if_neg (by show ¬ ((20:Int)=39);decide),if_neg (by show ¬ ((20:Int)=30);decide),B8x (show t<n by omega),B8x h]
 show (Q2 (scr b ⟨0,t,false⟩ s 0) m al tb 20 (N:Int) Col.zero [],m)=_
 have e:Q2 (scr b ⟨0,t,false⟩ s 0) m al tb 20 (N:Int) Col.zero []=scr b (B0h b.rows b.cols b.top b.bottom b.modes.origin ⟨0,t,false⟩ (N:Int)).1 s 0:=rfl
 have d:K1 2 (n:Int) 0 1 false ⟨0,t,false⟩=0:=E4s (r:=2) (c:=(n:Int)) opx opx ⟨Int.le_refl 0,by show (0:Int)<2;decide⟩ ⟨by show (0:Int)≤(t:Int);omega,by show (t:Int)<(n:Int);omega⟩ rfl
 have f:O5 2 (n:Int) 0 1 false ((t:Int)+(N:Int))=(t:Int)+(N:Int):=F1h (r:=2) (c:=(n:Int)) opx opx
 rw [e,a.rows,a.cols,a.top,a.bottom,a.org]
 unfold B0h C2
 rw [d,decide_eq_false (show ¬ (N:Int)<0 by omega),w64 opx,if_neg (show ¬ (2:Int)+(n:Int)<(N:Int) by omega)]
 unfold B4a
 rw [d]
 show ((scr b (Y9 ⟨0,t,false⟩ 2 (n:Int) 0 1 false 2 (n:Int) 0 1 false 2 (n:Int) 0 1 false (N:Int)) s 0),m)=_
 unfold Y9 A9t
 show ((scr b (⟨0,O5 2 (n:Int) 0 1 false (IntKind.i64.wrap ((t:Int)+(N:Int))),false⟩) s 0),m)=_
 rw [w64 opx,f]
 rfl
theorem D8l (g:Scr b n) {c:Cur} {m:List (Rwc Cel)}:∀ (l:List Act) (s:Sty) (la:Int),sOk s→(∀ a ∈ l,Nice a∧D4b a)→∃ f,Lds al tb l (scr b c s la,m) (scr b c (l.foldl ap s) f,m)
 | [],s,la,_,_=>⟨la,rfl⟩
 | a::l,s,la,hs,h=>by
  obtain ⟨i,d⟩:=h a (List.mem_cons_self ..)
  obtain ⟨f,r⟩:=D8l g l (ap s a) 0 (i.ok s hs) (fun x k=>h x (List.mem_cons_of_mem _ k))
  refine ⟨f,⟨⟨g.off,g.sets,fun q=>absurd (d.1.symm.trans q) ozw,fun q=>absurd (d.1.symm.trans q) ozw⟩,.inr (.inr (.inl d.1)),by rw [d.2];decide⟩,?_⟩
  have e:plS al tb (scr b c s la) m a=(scr b c (ap s a) 0,m):=by
   unfold plS
   rw [if_neg (by rw [d.1];decide),if_neg (by rw [d.1];decide),if_pos d.1]
   have j:(⟨39,a.n,a.m,a.color,a.text⟩:Act)=a:=by rw [← d.1]
   rw [j]
   show ((scr b c (A7n s a).1 0),m)=_
   rw [E7n (A4q hs) i.chk]
  show Lds al tb l (plS al tb (scr b c s la) m a) _
  rw [e];exact r
theorem D2x {s t:Sty} (b:D5 s=0) (a:D5 t=0):(stp s t=[]∧s=t)∨stp s t=chg s t∨stp s t=A1i t:=by
 have e:A1z s t=(chg s t,0):=by unfold A1z C2;rw [b,a,A5r];rfl
 unfold stp A6a C2
 rw [e]
 dsimp only
 by_cases q:s=t
 ·rw [decide_eq_true q];exact .inl ⟨rfl,q⟩
 ·rw [decide_eq_false q]
  refine .inr ?_
  show (bif (((!decide ((A4h (chg s t)).2=0))||(!decide ((A4h (A1i t)).2=0)))||(decide ((A4h (chg s t)).1≤(A4h (A1i t)).1))) then (chg s t,(0:Int)) else (A1i t,0)).1=chg s t∨_
  generalize (((!decide ((A4h (chg s t)).2=0))||(!decide ((A4h (A1i t)).2=0)))||(decide ((A4h (chg s t)).1≤(A4h (A1i t)).1)))=c
  cases c with
  | true=>exact .inl rfl
  | false=>exact .inr rfl
theorem D8z {s t:Sty} (d:D5 s=0) (c:D5 t=0):∀ a ∈ stp s t,Nice a∧D4b a:=fun a b=>by
 rcases D2x d c with ⟨e,_⟩ | e | e<;>rw [e] at b
 ·cases b
 ·exact ⟨D0h _ _ c a b,D4l _ _ a b⟩
 ·exact ⟨E3a _ c a b,B7i _ a b⟩
theorem D4p (g:Scr b n) {c:Cur} {m:List (Rwc Cel)} {s t:Sty} {la:Int} (d:sOk s) (f:sOk t):∃ a,Lds al tb (stp s t) (scr b c s la,m) (scr b c t a,m):=by
 obtain ⟨a,r⟩:=D8l (al:=al) (tb:=tb) (c:=c) (m:=m) g (stp s t) s la d (D8z (A4q d) (A4q f))
 refine ⟨a,?_⟩
 have e:(stp s t).foldl ap s=t:=by
  rcases D2x (A4q d) (A4q f) with ⟨e,q⟩ | e | e<;>rw [e]
  ·exact q
  ·exact D8k s t d f
  ·exact E3p t s f
 rw [e] at r;exact r
end
theorem D7m {c1:Int} {x:List Cel} {c:Cel} {w:Nat} (d:c.wide=(w:Int)):∀ (a:Nat) (r:Prn) (p:Nat),r.sign=c→r.til=(p:Int) →
  ∃ k:Nat,ext c1 x a r={r with many:=r.many+k,til:=((p+k * (1+w):Nat):Int)}∧(∀ j<k,((p+j * (1+w):Nat):Int)<c1∧x.getD (p+j * (1+w)) Cel.zero=c)∧(0<a→(p:Int)<c1→x.getD p Cel.zero=c→0<k)
 | 0,r,p,hs,hp=>⟨0,by rw [ext,Nat.zero_mul,Nat.add_zero,← hp];show r={r with many:=r.many+0};rw [Int.add_zero],fun j b=>absurd b (Nat.not_lt_zero j),fun h=>absurd h (Nat.lt_irrefl 0)⟩
 | a+1,r,p,hs,hp=>by
  rw [ext]
  by_cases q:r.til<c1∧x.getD r.til.toNat Cel.zero=r.sign
  ·rw [if_pos q]
   obtain ⟨k,e,h,_⟩:=D7m (c1:=c1) (x:=x) d a {r with many:=r.many+1,til:=r.til+(1+r.sign.wide)} (p+(1+w)) hs (by show r.til+(1+r.sign.wide)=_;rw [hs,d,hp];omega)
   refine ⟨k+1,?_,fun j b=>?_,fun _ _ _=>Nat.succ_pos k⟩
   ·rw [e,show p+(1+w)+k * (1+w)=p+(k+1) * (1+w) by rw [Nat.succ_mul];omega]
    show ({r with many:=r.many+1+(k:Int),til:=_}:Prn)=_
    rw [show r.many+1+(k:Int)=r.many+((k+1:Nat):Int) by omega]
   ·cases j with
    | zero=>rw [Nat.zero_mul,Nat.add_zero];rw [hp,Int.toNat_natCast,hs] at q;exact q
    | succ j =>
     have:=h j opx
     rw [show p+(1+w)+j * (1+w)=p+(j+1) * (1+w) by rw [Nat.succ_mul];omega] at this;exact this
  ·rw [if_neg q]
   refine ⟨0,by rw [Nat.zero_mul,Nat.add_zero,← hp];show r={r with many:=r.many+0};rw [Int.add_zero],fun j b=>absurd b (Nat.not_lt_zero j),fun _ g f=>?_⟩
   rw [hp,Int.toNat_natCast,hs] at q;exact absurd ⟨g,f⟩ q
structure RunAt (x:List Cel) (tn t m til:Nat) (c:Cel):Prop where
 pos:0<m
 tl:til=t+m * (1+c.wide.toNat)
 le:til≤tn
 at_:til<x.length→(x.getD til Cel.zero).wide≠2
 sign:x.getD t Cel.zero=c
 cells:∀ j<m,t+j * (1+c.wide.toNat)<tn∧x.getD (t+j * (1+c.wide.toNat)) Cel.zero=c
theorem F2a {x:List Cel} (h:RowW x) {tn t:Nat} (v:tn≤x.length) (y:t<tn) (o:(x.getD t Cel.zero).wide≠2) (d:tn<x.length→(x.getD tn Cel.zero).wide≠2) :
  ∃ m til:Nat,C6g (tn:Int) x (t:Int)={Prn.zero with sign:=x.getD t Cel.zero,many:=m,at_:=t,til:=til}∧RunAt x tn t m til (x.getD t Cel.zero):=by
 have wd:=B6u (h.ix t opx).1
 obtain ⟨k,e,i,r⟩:=D7m (c1:=(tn:Int)) (x:=x) (c:=x.getD t Cel.zero) (w:=(x.getD t Cel.zero).wide.toNat) opx (((tn:Int) - (t:Int)).toNat+1) (C0s x (t:Int)) t (by unfold C0s;rw [Int.toNat_natCast]) rfl
 have p:=r (Nat.succ_pos _) opx rfl
 have a:=i (k - 1) opx
 have b:=D4s h (t:=t+(k - 1) * (1+(x.getD t Cel.zero).wide.toNat)) opx (by rw [a.2];exact o)
 rw [a.2] at b
 have g:t+(k - 1) * (1+(x.getD t Cel.zero).wide.toNat)+1+(x.getD t Cel.zero).wide.toNat=t+k * (1+(x.getD t Cel.zero).wide.toNat):=by
  obtain ⟨j,rfl⟩:∃ j,k=j+1:=⟨k - 1,by omega⟩
  rw [Nat.add_sub_cancel,Nat.succ_mul];omega
 rw [g] at b
 refine ⟨k,t+k * (1+(x.getD t Cel.zero).wide.toNat),?_,p,rfl,?_,b.2,rfl,fun j n=>⟨by have:=(i j n).1;omega,(i j n).2⟩⟩
 ·unfold C6g;rw [e]
  unfold C0s
  rw [Int.toNat_natCast]
  show ({Prn.zero with sign:=x.getD t Cel.zero,at_:=(t:Int),many:=0+(k:Int),til:=_}:Prn)=_
  rw [Int.zero_add]
 ·by_cases q:t+k * (1+(x.getD t Cel.zero).wide.toNat)≤tn
  ·exact q
  ·exfalso
   have s:(x.getD t Cel.zero).wide=1:=by
    by_cases z:(x.getD t Cel.zero).wide=1
    ·exact z
    ·have:(x.getD t Cel.zero).wide.toNat=0:=by omega
     rw [this] at g q a;omega
   have f:=C8j h (t:=t+(k - 1) * (1+(x.getD t Cel.zero).wide.toNat)) opx (by rw [a.2];exact s)
   have l:(x.getD t Cel.zero).wide.toNat=1:=by omega
   have u:t+(k - 1) * (1+(x.getD t Cel.zero).wide.toNat)+1=tn:=by rw [l] at g q a ⊢;omega
   rw [u] at f
   exact d f.1 (by rw [f.2])
theorem D8j {c:Cel}:A1g c=true ↔ c.wide=0∧c.marks=Ar2.zero:=by unfold A1g;simp
theorem F4c (s:Sty) (r:Prn):(cR s r).2.2.2=false∨(2≤r.many∧A1g r.sign=true∧cR s r=((stp s r.sign.sty++sgn r.sign)++[{Act.zero with kind:=34,n:=IntKind.i64.wrap (r.many - 1)}],r.sign.sty,r.til,true)):=by
 unfold cR L5
 by_cases h:r.many<2
 ·rw [decide_eq_true h];exact .inl rfl
 ·rw [decide_eq_false h,Bool.false_or]
  cases hb:A1g r.sign with
  | false=>exact .inl rfl
  | true =>
   refine .inr ⟨by omega,rfl,?_⟩
   simp only [C2,Bool.not_true,cond_false]
   rw [D2k];rfl
theorem F3v (s:Sty) (r:Prn) (last:Bool):(cB s r last).2.2.2=false∨(A1g r.sign=true∧r.sign.base=32∧r.sign.sty={Sty.zero with back:=r.sign.sty.back} ∧
  cB s r last=(bif last then (stp s {s with back:=r.sign.sty.back}++[{Act.zero with kind:=30,n:=r.many}],{s with back:=r.sign.sty.back},r.at_,true) else ((stp s {s with back:=r.sign.sty.back}++[{Act.zero with kind:=30,n:=r.many}])++[{Act.zero with kind:=20,n:=2,m:=r.many}],{s with back:=r.sign.sty.back},r.til,true))):=by
 unfold cB M5
 cases hc:(((!(A1g r.sign))||(!decide (r.sign.base=32)))||(!(decide (r.sign.sty={Sty.zero with back:=r.sign.sty.back})))) with
 | true=>exact .inl rfl
 | false =>
  simp only [Bool.or_eq_false_iff,Bool.not_eq_false',decide_eq_true_eq] at hc
  refine .inr ⟨hc.1.1,hc.1.2,hc.2,?_⟩
  cases last<;>rfl
theorem E6o (q:D8t) (c:E0g):sel q c=q∨(c.2.2.2=true∧(N8 c.1).2=0∧(sel q c).2=(c.1,c.2.1,c.2.2.1)):=by
 unfold sel
 cases hb:bad q.1 c with
 | true=>exact .inl rfl
 | false =>
  unfold bad at hb
  simp only [Bool.or_eq_false_iff,Bool.not_eq_false',decide_eq_true_eq] at hb
  exact .inr ⟨hb.1.1,hb.1.2,rfl⟩
theorem E9z {a:Act} (b:a.kind=39) (h:J6 a=0):H0 a=0:=by
 have e:(⟨39,a.n,a.m,a.color,a.text⟩:Act)=a:=by rw [← b]
 unfold H0
 rw [decide_eq_false (show ¬ a.kind=1 by omega),decide_eq_true b,e,h];rfl
theorem D4r {n:Int} (h:0≤F6 n):H0 (ch n)=0:=by
 unfold H0
 rw [decide_eq_true (show (ch n).kind=1 from rfl),decide_eq_false (show ¬ F6 (ch n).n<0 by show ¬ F6 n<0;omega),decide_eq_true (show (⟨1,(ch n).n,(ch n).m,(ch n).color,(ch n).text⟩:Act)=B2i (ch n).kind (ch n).n 0 from rfl)]
 rfl
theorem E9j {c:Cel} (g:F5 c=0) (i:c.wide≠2):(∀ a ∈ sgn c,H0 a=0)∧(sgn c).length≤3:=by
 have f:=(A6v.1 g).1.resolve_left (by rw [B4h i];exact Bool.false_ne_true)
 have d:=(C2s _).1 f.2.2
 have e:H0 (ch c.base)=0:=D4r opx
 unfold sgn C1x
 by_cases ha:c.marks.a=0<;>by_cases hb:c.marks.b=0
 ·rw [if_pos ha,if_pos hb];exact ⟨fun a h=>by rw [List.mem_singleton.1 h];exact e,by show 1≤3;decide⟩
 ·exact absurd ha (d.2 hb).1
 ·rw [if_neg ha,if_pos hb]
  refine ⟨fun a h=>?_,by show 2≤3;decide⟩
  rcases List.mem_cons.1 h with rfl | h
  ·exact e
  ·rw [List.mem_singleton.1 h];exact D4r (by rw [d.1 ha];exact Int.le_refl 0)
 ·rw [if_neg ha,if_neg hb]
  refine ⟨fun a h=>?_,by show 3≤3;decide⟩
  rcases List.mem_cons.1 h with rfl | h
  ·exact e
  rcases List.mem_cons.1 h with rfl | h
  ·exact D4r (by rw [d.1 ha];exact Int.le_refl 0)
  ·rw [List.mem_singleton.1 h];exact D4r (by rw [(d.2 hb).2];exact Int.le_refl 0)
theorem F3b {n:Nat} {l:List Act} {a:Act} (h:a ∈ rep n l):a ∈ l:=by
 unfold rep at h
 obtain ⟨m,c,b⟩:=List.mem_flatten.1 h
 rw [(List.mem_replicate.1 c).2] at b;exact b
theorem E8q (n:Nat) (l:List Act):(rep n l).length=n * l.length:=by
 induction n with
 | zero=>rw [Nat.zero_mul];rfl
 | succ n ih=>rw [C5i,List.length_append,ih,Nat.succ_mul];omega
theorem D5b (s t:Sty):(stp s t).length≤22:=B5d s t
section
variable {x was:List Cel} {f n tn:Nat} {B:Rwc Cel} {b:ScrC} {al:List (Rwc Cel)} {tb:List Bool}
def E3x (x was:List Cel) (f n:Nat) (B:Rwc Cel) (b:ScrC) (al:List (Rwc Cel)) (tb:List Bool) (C:List Cel) (t c:Nat) (last:Bool) (s:Sty) (la:Int) (q:List Act×Sty×Int):Prop :=
 (∀ a ∈ q.1,H0 a=0)∧q.1.length≤400∧sOk q.2.1∧∃ (d:Nat) (D:List Cel) (e:Int),q.2.2=(d:Int)∧(d=c∨(last=true∧d=t)) ∧
  Lds al tb q.1 (scr b (U7 n t) s la,two C B) (scr b (U7 n d) q.2.1 e,two D B)∧Inv x was f c D
theorem E3g (hb:Scr b n) (k:Ctx x was f) (hn:n=x.length) (hB:OkB x.length B) (bd:tn≤x.length) {C:List Cel} {t m til:Nat} {c:Cel} {s:Sty} {la:Int} (hs:sOk s) (d:sOk c.sty) (h:Inv x was f t C) (hf:f≤t) (h2:c.wide≠2) (hr:RunAt x tn t m til c) {r:Prn} (er:r={Prn.zero with sign:=c,many:=m,at_:=t,til:=til}) :
  E3x x was f n B b al tb C t til (decide (r.til=(tn:Int))) s la (C1f s r (decide (r.til=(tn:Int)))).2:=by
 have bb:=k.hx.len
 have aa:t<x.length:=by have:=(hr.cells 0 hr.pos).1;rw [Nat.zero_mul] at this;omega
 have a7:F5 c=0:=by rw [← hr.sign];exact (k.hx.ix t aa).1
 have wd:=B6u a7
 have a9:m≤80:=by
  have:=hr.tl;have:=hr.le
  have:=Nat.le_mul_of_pos_right m (show 0<1+c.wide.toNat by omega)
  omega
 have u:∀ j<m,t+j * (1+c.wide.toNat)<x.length∧x.getD (t+j * (1+c.wide.toNat)) Cel.zero=c:=fun j hj=>⟨by have:=(hr.cells j hj).1;omega,(hr.cells j hj).2⟩
 obtain ⟨an,au⟩:=E9j a7 h2
 have a4:r.sign=c:=by rw [er]
 have a6:r.many=(m:Int):=by rw [er]
 have b1:r.at_=(t:Int):=by rw [er]
 have y:r.til=(til:Int):=by rw [er]
 have am:=A4q d;have ss:=A4q hs
 have aq:∀ t',D5 t'=0→∀ a ∈ stp s t',H0 a=0:=fun t' az a ha=>by
  obtain ⟨p1,p2⟩:=D8z ss az a ha
  exact E9z p2.1 p1.chk
 generalize hlast:decide (r.til=(tn:Int))=last
 have gP:E3x x was f n B b al tb C t til last s la ((cP s r).1,(cP s r).2.1,(cP s r).2.2.1)∧(cP s r).2.2.2=true∧(N8 (cP s r).1).2=0:=by
  rw [F4s,a4,a6,y,Int.toNat_natCast]
  have o:(stp s c.sty++rep m (sgn c)).length≤400:=by
   rw [List.length_append,E8q]
   have:=D5b s c.sty
   have:=Nat.mul_le_mul a9 au
   omega
  have ab:∀ a ∈ stp s c.sty++rep m (sgn c),H0 a=0:=fun a ha=>(List.mem_append.1 ha).elim (aq _ am a) (fun q=>an a (F3b q))
  obtain ⟨p,r1⟩:=D4p (al:=al) (tb:=tb) (c:=U7 n t) (m:=two C B) (la:=la) hb hs d
  obtain ⟨D,ak,r2,z⟩:=D3c (al:=al) (tb:=tb) (s:=c.sty) hb k hn hB h2 rfl m t C p h hf u
  rw [← hr.tl] at r2 z
  exact ⟨⟨ab,o,d,til,D,ak,rfl,.inl rfl,Lds.app r1 r2,z⟩,rfl,(C3g (Nat.le_trans o ozw)).2 ab⟩
 have gR:(cR s r).2.2.2=true→(N8 (cR s r).1).2=0→E3x x was f n B b al tb C t til last s la ((cR s r).1,(cR s r).2.1,(cR s r).2.2.1):=fun l v=>by
  rcases F4c s r with e | ⟨m2,hba,e⟩
  ·rw [e] at l;cases l
  ·rw [e] at v ⊢
   rw [a4] at hba v ⊢
   rw [a6] at m2 v ⊢
   rw [y]
   rw [w64 opx,show (m:Int) - 1=((m - 1:Nat):Int) by omega] at v ⊢
   obtain ⟨w0,a5⟩:=D8j.1 hba
   have o:((stp s c.sty++sgn c)++[({Act.zero with kind:=34,n:=((m - 1:Nat):Int)}:Act)]).length≤400:=by
    rw [List.length_append,List.length_append,List.length_singleton]
    have:=D5b s c.sty;omega
   obtain ⟨p,r1⟩:=D4p (al:=al) (tb:=tb) (c:=U7 n t) (m:=two C B) (la:=la) hb hs d
   obtain ⟨D,r2,z⟩:=D7q (la:=p) (al:=al) (tb:=tb) (s:=c.sty) (t:=t) hb k hn h hf aa (by rw [hr.sign];exact h2) hB (by rw [hr.sign])
   rw [hr.sign,w0] at r2 z
   obtain ⟨D2,r3,i3⟩:=E0q (al:=al) (tb:=tb) (s:=c.sty) (C:=D) (t:=t+1) (N:=m - 1) hb k hn hB a7 w0 a5 rfl z opx (fun i hi=>by
    have:=u (i+1) opx
    rw [w0,show t+(i+1) * (1+(0:Int).toNat)=t+1+i by simp;omega] at this;exact this) opx
   have et:t+1+(m - 1)=til:=by have:=hr.tl;rw [w0] at this;simp at this;omega
   rw [et] at r3 i3
   exact ⟨(C3g (Nat.le_trans o ozw)).1 v,o,d,til,D2,_,rfl,.inl rfl,Lds.app (Lds.app r1 r2) r3,i3⟩
 have gB:(cB s r last).2.2.2=true→(N8 (cB s r last).1).2=0→E3x x was f n B b al tb C t til last s la ((cB s r last).1,(cB s r last).2.1,(cB s r last).2.2.1):=fun l v=>by
  rcases F3v s r last with e | ⟨hba,hb32,hsty,e⟩
  ·rw [e] at l;cases l
  ·rw [a4] at hba hb32 hsty e
   rw [a6,b1,y] at e
   obtain ⟨w0,a5⟩:=D8j.1 hba
   have w:sOk {s with back:=c.sty.back}:=⟨hs.1,hs.2.1,hs.2.2.1,d.2.2.2.1,hs.2.2.2.2⟩
   have ao:c=G8 {Sty.zero with back:=c.sty.back}:=by
    rw [← hsty]
    show c=⟨32,Ar2.zero,0,c.sty⟩
    rw [← hb32,← w0,← a5]
   obtain ⟨p,r1⟩:=D4p (al:=al) (tb:=tb) (c:=U7 n t) (m:=two C B) (la:=la) (t:={s with back:=c.sty.back}) hb hs w
   have et:t+m=til:=by have:=hr.tl;rw [w0] at this;simp at this;omega
   have bc:=hr.le
   obtain ⟨D,r2,z⟩:=E3h (la:=p) (al:=al) (tb:=tb) (s:={s with back:=c.sty.back}) (C:=C) (t:=t) (N:=m) hb k hn hB (A4q w) h hf (by rw [hr.sign];exact h2) hr.pos opx (fun i i1 i3=>by
    have:=(u (i - t) opx).2
    rw [w0,show t+(i - t) * (1+(0:Int).toNat)=i by simp;omega] at this
    rw [this];exact ao)
   rw [et] at z
   have ba:=D5b s {s with back:=c.sty.back}
   cases last with
   | true =>
    rw [cond_true] at e
    rw [e] at v ⊢
    have o:(stp s {s with back:=c.sty.back}++[({Act.zero with kind:=30,n:=(m:Int)}:Act)]).length≤400:=by rw [List.length_append,List.length_singleton];omega
    exact ⟨(C3g (Nat.le_trans o ozw)).1 v,o,w,t,D,0,rfl,.inr ⟨rfl,rfl⟩,Lds.app r1 r2,z⟩
   | false =>
    rw [cond_false] at e
    rw [e] at v ⊢
    have av:=of_decide_eq_false hlast
    rw [y] at av
    have o:((stp s {s with back:=c.sty.back}++[({Act.zero with kind:=30,n:=(m:Int)}:Act)])++[({Act.zero with kind:=20,n:=2,m:=(m:Int)}:Act)]).length≤400:=by rw [List.length_append,List.length_append,List.length_singleton,List.length_singleton];omega
    have r3:=E7r (al:=al) (tb:=tb) (s:={s with back:=c.sty.back}) (la:=0) (t:=t) (N:=m) (m:=two D B) hb opx opx
    rw [et] at r3
    exact ⟨(C3g (Nat.le_trans o ozw)).1 v,o,w,til,D,0,rfl,.inl rfl,Lds.app (Lds.app r1 r2) r3,z⟩
 have s1:E3x x was f n B b al tb C t til last s la (sel B1o (cP s r)).2:=by
  obtain ⟨g,p1,p2⟩:=gP
  have b2:bad B1o.1 (cP s r)=false:=by
   show bad (-1) (cP s r)=false
   rw [E3i,p1,p2];rfl
  unfold sel
  rw [b2];exact g
 have s2:E3x x was f n B b al tb C t til last s la (sel (sel B1o (cP s r)) (cR s r)).2:=by
  rcases E6o (sel B1o (cP s r)) (cR s r) with e | ⟨p1,p2,e⟩
  ·rw [e];exact s1
  ·rw [e];exact gR p1 p2
 unfold C1f
 rcases E6o (sel (sel B1o (cP s r)) (cR s r)) (cB s r last) with e | ⟨p1,p2,e⟩
 ·rw [e];exact s2
 ·rw [e];exact gB p1 p2
end
theorem F2w {x:List Cel} (h:∀ c ∈ x,sOk c.sty) {t:Nat} (a:t<x.length):sOk (x.getD t Cel.zero).sty:=by
 rw [gdE a];exact h _ (List.getElem_mem a)
section
variable {x was:List Cel} {f n tn d:Nat} {B:Rwc Cel} {b:ScrC} {al:List (Rwc Cel)} {tb:List Bool}
theorem D3f (hb:Scr b n) (k:Ctx x was f) (hn:n=x.length) (hB:OkB x.length B) (hv:RowV x) (o:d≤x.length) (p:d<x.length→(x.getD d Cel.zero).wide≠2) (r:∀ c ∈ x,sOk c.sty) :
  ∀ (K t:Nat) (C:List Cel) (s:Sty) (la i:Int),d - t≤K→t<d→f≤t→(x.getD t Cel.zero).wide≠2→sOk s→Inv x was f t C →
  ∃ (a':Nat) (D:List Cel) (a4:Int),(∀ a ∈ (I9 (d:Int) (C1p (d:Int) x (t:Int)) s [] i).1,H0 a=0)∧(I9 (d:Int) (C1p (d:Int) x (t:Int)) s [] i).1.length≤400 * (d - t) ∧
   (I9 (d:Int) (C1p (d:Int) x (t:Int)) s [] i).2.2=((a':Int),0)∧a'≤d ∧
   Lds al tb (I9 (d:Int) (C1p (d:Int) x (t:Int)) s [] i).1 (scr b (U7 n t) s la,two C B) (scr b (U7 n a') (I9 (d:Int) (C1p (d:Int) x (t:Int)) s [] i).2.1 a4,two D B)∧Inv x was f d D
 | 0,t,C,s,la,i,hK,ht,_,_,_,_=>absurd ht opx
 | K+1,t,C,s,la,i,hK,ht,hf,h2,hs,h=>by
  obtain ⟨m,til,er,hr⟩:=F2a k.hx o ht h2 p
  have g:=E3g (al:=al) (tb:=tb) (la:=la) hb k hn hB o hs (F2w r opx) h hf h2 hr er
  rw [E0d (hv.runB opx) opx opx,C8l,E0h,List.nil_append]
  have u:(C6g (d:Int) x (t:Int)).til=(til:Int):=by rw [er]
  rw [u] at g ⊢
  generalize hq:C1f s (C6g (d:Int) x (t:Int)) (decide ((til:Int)=(d:Int)))=q at g ⊢
  obtain ⟨g1,g2,g3,w,D1,v,ea,l,L1,I1⟩:=g
  have a5:t<til:=by
   have:=hr.tl;have:=hr.pos
   have:=Nat.le_mul_of_pos_right m (show 0<1+(x.getD t Cel.zero).wide.toNat by omega)
   omega
  have af:=hr.le
  by_cases z:til=d
  ·rw [D0o (show ¬ (til:Int)<(d:Int) by omega)]
   have e0:I9 (d:Int) ([]:List Prn) q.2.2.1 [] q.2.2.2=([],q.2.2.1,q.2.2.2,0):=rfl
   rw [e0]
   dsimp only
   rw [List.append_nil]
   refine ⟨w,D1,v,g1,?_,by rw [ea],?_,L1,by rw [← z];exact I1⟩
   ·have:400 * 1≤400 * (d - t):=Nat.mul_le_mul_left _ opx
    omega
   ·rcases l with e | ⟨_,e⟩<;>omega
  ·have j:decide ((til:Int)=(d:Int))=false:=decide_eq_false opx
   rw [j] at l
   obtain rfl:w=til:=l.resolve_right (fun q=>by cases q.1)
   obtain ⟨a2,D2,y,r1,r2,r3,r4,L2,I2⟩:=D3f hb k hn hB hv o p r K w D1 q.2.2.1 v q.2.2.2 opx opx opx (hr.at_ opx) g3 I1
   refine ⟨a2,D2,y,fun a ha=>(List.mem_append.1 ha).elim (g1 a) (r1 a),?_,r3,r4,Lds.app L1 L2,I2⟩
   show (q.2.1++_).length≤_
   rw [List.length_append]
   have:400 * (d - w)+400 * 1≤400 * (d - t):=by rw [← Nat.mul_add];exact Nat.mul_le_mul_left _ opx
   omega
theorem E8g (x was:List Cel) (b:was.length=x.length) (a:f≤tn) (c:tn≤x.length) (i:Nat):(was.take f++((x.drop f).take (tn - f)++was.drop tn)).getD i Cel.zero=if f≤i∧i<tn then x.getD i Cel.zero else was.getD i Cel.zero:=by
 simp only [List.getD_eq_getElem?_getD,List.getElem?_append,List.getElem?_take,List.getElem?_drop,List.length_take,List.length_drop]
 by_cases c1:i<f
 ·rw [if_pos opx,if_pos c1,if_neg opx]
 ·rw [if_neg opx]
  by_cases c2:i<tn
  ·rw [if_pos opx,if_pos opx,if_pos opx,show f+(i - min f was.length)=i by omega]
  ·rw [if_neg opx,if_neg opx,show tn+(i - min f was.length - min (tn - f) (x.length - f))=i by omega]
theorem E5d {to_:Int} {pen:Sty} (hb:Scr b x.length) (h:(∀ c ∈ x,aR c.sty)∧aR pen) (g:(F7 x (f:Int) to_ pen).2.2.2=0) (s:was.length=x.length) (hw:G5 was false=0) (w:f<x.length) (l:(was.getD f Cel.zero).wide≠2) (o:to_<x.length→(was.getD to_.toNat Cel.zero).wide≠2) (hB:OkB x.length B) (la:Int) :
  ∃ (j:Nat) (e:Int),(∀ a ∈ (F7 x (f:Int) to_ pen).1,H0 a=0)∧(F7 x (f:Int) to_ pen).1.length≤40000∧(F7 x (f:Int) to_ pen).2.2=((j:Int),0)∧j≤x.length∧sOk pen ∧
   Lds al tb (F7 x (f:Int) to_ pen).1 (scr b (U7 x.length f) pen la,two was B) (scr b (U7 x.length j) (F7 x (f:Int) to_ pen).2.1 e,two (was.take f++((x.drop f).take (to_.toNat - f)++was.drop to_.toNat)) B):=by
 have S:=D3m g
 have r:G5 x false=0:=by
  unfold F7 at g
  by_cases hr:G5 x false=0
  ·exact hr
  ·rw [decide_eq_false hr,cond_false] at g
   unfold P1 at g
   rw [decide_eq_false hr,Bool.not_false,cond_true] at g;exact g
 have t:=B5n.1 r
 have a0:=B5n.1 hw
 have a2:=S.lim
 obtain ⟨d,rfl⟩:∃ d:Nat,to_=(d:Int):=⟨to_.toNat,by omega⟩
 have y:=S.f2 opx
 rw [Int.toNat_natCast] at y
 have k:Ctx x was f:=⟨t,a0,s,w,y,l⟩
 have v:sOk pen:=E6s h.2 S.sty
 have p:∀ c ∈ x,sOk c.sty:=fun c hc=>by
  obtain ⟨i,u,rfl⟩:=List.getElem_of_mem hc
  have:=(t.ix i u).1
  rw [gdE u] at this
  exact E6s (h.1 _ hc) (A6v.1 this).2
 have I0:Inv x was f f was:=⟨s,fun _ _=>rfl,fun i h1 h2=>absurd h1 opx,fun _ _=>rfl,fun _=>.inl ⟨l,rfl⟩⟩
 rw [S.is]
 have a5:=t.len
 have n:d<x.length→(was.getD d Cel.zero).wide≠2:=fun q=>by have:=o opx;rw [Int.toNat_natCast] at this;exact this
 have m:∀ D,Inv x was f d D→D=was.take f++((x.drop f).take (((d:Nat):Int).toNat - f)++was.drop ((d:Nat):Int).toNat):=fun D hD=>by
  rw [Int.toNat_natCast]
  have a4:=hD.len
  refine E7l (by simp only [List.length_append,List.length_take,List.length_drop];omega) fun i u=>?_
  rw [E8g x was s opx opx]
  by_cases c:f≤i∧i<d
  ·rw [if_pos c];exact hD.mid i c.1 c.2
  ·rw [if_neg c]
   by_cases c1:i<f
   ·exact hD.lo i c1
   ·by_cases c2:i=d
    ·subst c2
     rcases hD.at_ opx with q | q
     ·exact q.2
     ·exact absurd q.1 (n opx)
    ·exact hD.hi i opx
 by_cases z:f<d
 ·obtain ⟨j,D,e,r1,r2,r3,r4,L,I⟩:=D3f (al:=al) (tb:=tb) (B:=B) hb k rfl hB S.row (show d≤x.length by omega) (fun q=>by have:=S.t2 opx;rw [Int.toNat_natCast] at this;exact this) p (d - f) f was pen la (d:Int) (Nat.le_refl _) z (Nat.le_refl _) y v I0
  refine ⟨j,e,r1,Nat.le_trans r2 ?_,r3,by omega,v,?_⟩
  ·have:400 * (d - f)≤400 * 80:=Nat.mul_le_mul_left _ opx
   omega
  ·rw [← m D I];exact L
 ·have ef:d=f:=by omega
  subst ef
  rw [D0o (show ¬ (d:Int)<(d:Int) by omega)]
  refine ⟨d,la,fun a ha=>(by cases ha),(by show (0:Nat)≤40000;decide),rfl,by omega,v,?_⟩
  rw [← m was I0]
  show Lds al tb [] _ _
  exact rfl
theorem E2d:∀ {l:List Act} {p q:ScrC×List (Rwc Cel)} (i:Nat),Lds al tb l p q→U2 al tb l i p.1 p.2=(q.1,q.2,al,tb,0)
 | [],p,q,i,h=>by cases h;rfl
 | a::l,p,q,i,h=>by
  have b:=E2d (i+1) h.2
  rw [← b,U2]
  unfold plS unW C2
  by_cases c1:a.kind=1
  ·rw [decide_eq_true c1,if_pos c1];rfl
  rw [decide_eq_false c1,if_neg c1]
  by_cases c2:a.kind=34
  ·rw [decide_eq_true c2,if_pos c2];rfl
  rw [decide_eq_false c2,if_neg c2]
  by_cases c3:a.kind=39
  ·rw [decide_eq_true c3,if_pos c3];rfl
  rw [decide_eq_false c3,if_neg c3]
  by_cases c4:a.kind=30
  ·rw [decide_eq_true c4,if_pos c4];rfl
  rw [decide_eq_false c4,if_neg c4];rfl
theorem E6q (s:ScrC) (m:List (Rwc Cel)) (L:List Act):∀ (l:List Act) (i:Nat),(∀ a ∈ l,H0 a=0)→A0v s m al tb L l i=U2 al tb L 0 s m
 | [],i,_=>rfl
 | a::l,i,h=>by
  simp only [A0v]
  rw [h a (List.mem_cons_self ..)]
  exact E6q s m L l (i+1) fun b c=>h b (List.mem_cons_of_mem _ c)
end
def b0 (n:Int):ScrC:={ScrC.zero with cols:=n,rows:=2,modes:=A6s,bottom:=1}
def bl0 (n:Int):Rwc Cel:=⟨List.replicate n.toNat (G8 Sty.zero),false⟩
theorem E9x (n:Int) (h:2≤n∧n≤80):X0 n 2=(b0 n,[bl0 n,bl0 n],[bl0 n,bl0 n],(Z5 n).1,0):=D1j n 2 h ozw
theorem F5h (n:Nat):Scr (b0 (n:Int)) n:=⟨rfl,rfl,rfl,rfl,rfl,rfl,rfl,rfl⟩
theorem F2u {n:Nat} (h:2≤n∧n≤80):OkB n (bl0 (n:Int)):=⟨E3c (n:Int) opx false,by unfold bl0;rw [List.length_replicate,Int.toNat_natCast]⟩
structure Asks (x was:List Cel) (from_ to_:Int) (pen:Sty):Prop where
 ok:(F7 x from_ to_ pen).2.2.2=0
 len:(was.length:Int)=x.length
 row:G5 was false=0
 ne:¬ from_=(x.length:Int)
 f2:¬ (was.getD from_.toNat Cel.zero).wide=2
 t2:¬ (to_<(x.length:Int)∧(was.getD to_.toNat Cel.zero).wide=2)
theorem D1i {x was:List Cel} {from_ to_:Int} {pen:Sty} (i:(∀ c ∈ x,aR c.sty)∧aR pen) (h:Asks x was from_ to_ pen) :
  (2≤x.length∧x.length≤80)∧∃ (f d:Nat) (b:Int),from_=(f:Int)∧f<x.length∧(∀ a ∈ (F7 x from_ to_ pen).1,H0 a=0)∧(F7 x from_ to_ pen).1.length≤40000∧(F7 x from_ to_ pen).2.2=((d:Int),0)∧d≤x.length∧sOk pen ∧
   Lds [bl0 x.length,bl0 x.length] (Z5 x.length).1 (F7 x from_ to_ pen).1 (scr (b0 x.length) ⟨0,from_,false⟩ pen 0,two was (bl0 x.length)) (scr (b0 x.length) (U7 x.length d) (F7 x from_ to_ pen).2.1 b,two (was.take from_.toNat++((x.drop from_.toNat).take (to_.toNat - from_.toNat)++was.drop to_.toNat)) (bl0 x.length)):=by
 have S:=D3m h.ok
 have m:=S.lim
 have p:=h.ne
 obtain ⟨f,rfl⟩:∃ f:Nat,from_=(f:Int):=⟨from_.toNat,by omega⟩
 have g:=h.f2
 have j:=h.ok
 rw [Int.toNat_natCast] at g ⊢
 have l:=h.len
 have r:=E5d (al:=[bl0 x.length,bl0 x.length]) (tb:=(Z5 x.length).1) (F5h x.length) i j opx h.row opx g (fun q e=>h.t2 ⟨q,e⟩) (F2u S.row.len) 0
 obtain ⟨d,b,o,u,t,n,s,k⟩:=r
 rw [B8x (show f<x.length by omega)] at k
 exact ⟨S.row.len,f,d,b,rfl,by omega,o,u,t,n,s,k⟩
theorem E8f {x was:List Cel} {from_ to_:Int} {pen:Sty} {R:List Act×Sty×Int×Int} {S:ScrC×List (Rwc Cel)×List (Rwc Cel)×List Bool×Int} (d:(∀ c ∈ x,aR c.sty)∧aR pen) (h:Asks x was from_ to_ pen) (hR:F7 x from_ to_ pen=R) (g:X0 (x.length:Int) 2=S) :
  D7v S.2.2.1 S.2.2.2.1 R.1 ({S.1 with cursor:={Cur.zero with col:=from_},style:=pen}) ([⟨was,false⟩,⟨(S.2.1.getD 1 bS).l,(S.2.1.getD 1 bS).b⟩]:List (Rwc Cel))∧∀ a ∈ R.1,p5 a:=by
 obtain ⟨j,f,k,i,e,_,_,_,_,_,_,L⟩:=D1i d h
 rw [← hR,← g,E9x _ opx]
 exact L.ok
theorem E1t {x was:List Cel} {from_ to_:Int} {pen:Sty} {R:List Act×Sty×Int×Int} (hR:F7 x from_ to_ pen=R) (c:R.2.2.2=0)
  (a:(((((!decide ((was.length:Int)=(x.length:Int)))||(!decide ((G5 was false)=0)))||(decide (from_=(x.length:Int))))||(decide ((was.getD ((from_).toNat) Cel.zero).wide=2)))||((decide (to_<(x.length:Int)))&&(decide ((was.getD ((to_).toNat) Cel.zero).wide=2))))=false):Asks x was from_ to_ pen:=by
 simp only [Bool.or_eq_false_iff,Bool.and_eq_false_iff,Bool.not_eq_false',decide_eq_true_eq,decide_eq_false_iff_not] at a
 obtain ⟨⟨⟨⟨g,d⟩,f⟩,b⟩,e⟩:=a
 exact ⟨by rw [hR];exact c,g,d,f,b,fun q=>e.elim (fun n=>n q.1) (fun n=>n q.2)⟩
theorem E1j {x was:List Cel} {from_ to_:Int} {pen:Sty} (h:(∀ c ∈ x,aR c.sty)∧aR pen) (i:Asks x was from_ to_ pen):(2≤x.length∧x.length≤80)∧∃ (e:Nat) (a:Int),(F7 x from_ to_ pen).2.2.1=(e:Int)∧e≤x.length ∧
  A5h ({b0 x.length with cursor:={Cur.zero with col:=from_},style:=pen}) ([⟨was,false⟩,⟨(([bl0 x.length,bl0 x.length]:List (Rwc Cel)).getD 1 bS).l,(([bl0 x.length,bl0 x.length]:List (Rwc Cel)).getD 1 bS).b⟩]:List (Rwc Cel)) [bl0 x.length,bl0 x.length] (Z5 x.length).1 (F7 x from_ to_ pen).1=(scr (b0 x.length) (U7 x.length e) (F7 x from_ to_ pen).2.1 a,two (was.take from_.toNat++((x.drop from_.toNat).take (to_.toNat - from_.toNat)++was.drop to_.toNat)) (bl0 x.length),[bl0 x.length,bl0 x.length],(Z5 x.length).1,0):=by
 obtain ⟨d,f,e,a,w,v,m,y,o,k,n,L⟩:=D1i h i
 have t:=i.len
 have q:=i.row
 have g:(2:Int)≤(x.length:Int)∧(x.length:Int)≤80:=by omega
 have p:A0q (scr (b0 x.length) ⟨0,from_,false⟩ pen 0) (two was (bl0 x.length)) [bl0 x.length,bl0 x.length] (Z5 x.length).1=0:=by
  have j:G5 (bl0 x.length).l (bl0 x.length).b=0∧(((bl0 x.length).l.length:Nat):Int)=x.length:=⟨(F2u d).row,by rw [(F2u d).len]⟩
  refine E7x (s:=scr (b0 x.length) ⟨0,from_,false⟩ pen 0) (E4s (r:=2) (c:=(x.length:Int)) (u:=⟨0,from_,false⟩) g ozw ⟨Int.le_refl 0,by show (0:Int)<2;decide⟩ ⟨by show 0≤from_;omega,by show from_<(x.length:Int);omega⟩ rfl) (D3a (r:=2) g ozw) (D3a (r:=2) g ozw)
   (D6k rfl (by show (1:Int)≤2∧(2:Int)≤40;decide) (fun r hr=>?_)) (D6k rfl (by show (1:Int)≤2∧(2:Int)≤40;decide) (fun r hr=>?_)) g (E5m _ g) (A4q n) (show V9 Sts.zero=0 by decide +kernel) (show A9k A6s=0 by decide +kernel) ⟨show (0:Int)≤0 by decide,show (0:Int)≤6 by decide⟩ F0m rfl
  ·rcases List.mem_cons.1 hr with rfl | hr
   ·exact ⟨q,t⟩
   ·rw [List.mem_singleton.1 hr];exact j
  ·rcases List.mem_cons.1 hr with rfl | hr
   ·exact j
   ·rw [List.mem_singleton.1 hr];exact j
 have hR:A5h ({b0 x.length with cursor:={Cur.zero with col:=from_},style:=pen}) ([⟨was,false⟩,⟨(([bl0 x.length,bl0 x.length]:List (Rwc Cel)).getD 1 bS).l,(([bl0 x.length,bl0 x.length]:List (Rwc Cel)).getD 1 bS).b⟩]:List (Rwc Cel)) [bl0 x.length,bl0 x.length] (Z5 x.length).1 (F7 x from_ to_ pen).1=(scr (b0 x.length) (U7 x.length e) (F7 x from_ to_ pen).2.1 a,two (was.take from_.toNat++((x.drop from_.toNat).take (to_.toNat - from_.toNat)++was.drop to_.toNat)) (bl0 x.length),[bl0 x.length,bl0 x.length],(Z5 x.length).1,0):=by
  show A5h (scr (b0 x.length) ⟨0,from_,false⟩ pen 0) (two was (bl0 x.length)) [bl0 x.length,bl0 x.length] (Z5 x.length).1 (F7 x from_ to_ pen).1=_
  unfold A5h
  rw [p,decide_eq_false (show ¬ (131072:Int)<((F7 x from_ to_ pen).1.length:Int) by omega)]
  show A0v _ _ _ _ _ _ 0=_
  rw [E6q _ _ _ _ _ m];exact E2d 0 L
 exact ⟨d,e,a,by rw [o],k,hR⟩
theorem E6t {x was:List Cel} {from_ to_:Int} {pen:Sty} {R:List Act×Sty×Int×Int} {S Q:ScrC×List (Rwc Cel)×List (Rwc Cel)×List Bool×Int} (a:(∀ c ∈ x,aR c.sty)∧aR pen) (h:Asks x was from_ to_ pen) (hR:F7 x from_ to_ pen=R) (d:X0 (x.length:Int) 2=S)
  (f:A5h ({S.1 with cursor:={Cur.zero with col:=from_},style:=pen}) ([⟨was,false⟩,⟨(S.2.1.getD 1 bS).l,(S.2.1.getD 1 bS).b⟩]:List (Rwc Cel)) S.2.2.1 S.2.2.2.1 R.1=Q):Q.2.1.length=2:=by
 obtain ⟨i,j,g,_,_,e⟩:=E1j a h
 rw [← f,← hR,← d,E9x _ opx,e];rfl
theorem E8e {n:Nat} {S:ScrC×List (Rwc Cel)×List (Rwc Cel)×List Bool×Int} (h:2≤n∧n≤80) (a:X0 (n:Int) 2=S):S.2.1.length=2:=by
 rw [← a,E9x _ opx];rfl
def A6b (x:List Cel) (was:List Cel) (from_:Int) (to_:Int) (pen:Sty):Bool :=
 (bif (!B0e) then false else (C2 (F7 x from_ to_ pen) fun (c:List Act×Sty×Int×Int)=>(bif (!decide (c.2.2.2=0)) then (decide ((c.1.length:Int)=0)) else (bif (((((!decide ((was.length:Int)=(x.length:Int)))||(!decide ((G5 was false)=0)))||(decide (from_=(x.length:Int))))||(decide ((was.getD ((from_).toNat) Cel.zero).wide=2)))||((decide (to_<(x.length:Int)))&&(decide ((was.getD ((to_).toNat) Cel.zero).wide=2)))) then true else (C2 (X0 (x.length:Int) 2) fun (a:ScrC×List (Rwc Cel)×List (Rwc Cel)×List Bool×Int)=>(bif (!decide (a.2.2.2.2=0)) then false else (C2 (A5h ({a.1 with cursor:={Cur.zero with col:=from_},style:=pen}) ([⟨was,false⟩,⟨(a.2.1.getD 1 bS).l,(a.2.1.getD 1 bS).b⟩]:List (Rwc Cel)) a.2.2.1 a.2.2.2.1 c.1) fun (d:ScrC×List (Rwc Cel)×List (Rwc Cel)×List Bool×Int)=>(bif (((!decide (d.2.2.2.2=0))||(!(decide (d.1.style=c.2.1))))||(!(decide (d.1.cursor={Cur.zero with col:=(if ((x.length:Int) - 1)<c.2.2.1 then ((x.length:Int) - 1) else c.2.2.1),wrap:=(decide (c.2.2.1=(x.length:Int)))})))) then false else (C2 (S5 ([(was.take ((from_).toNat)),((x.drop ((from_).toNat)).take (((to_).toNat) - ((from_).toNat))),(was.drop ((to_).toNat))]:List (List Cel))) fun (e:List Cel)=>((G1 ((d.2.1.getD 0 bS).l) e)&&(G1 ((d.2.1.getD 1 bS).l) ((([⟨was,false⟩,⟨(a.2.1.getD 1 bS).l,(a.2.1.getD 1 bS).b⟩]:List (Rwc Cel)).getD 1 bS).l))))))))))))
theorem ohm {p:Prop} (h:p:=by first|omega|exact Nat.le_refl 2):p:=h
theorem okt {p:Prop} (h:p:=by first|rfl|omega|(simp only [List.length_take,List.length_drop];first|omega|exact Nat.le_refl 2)|(simp;done)):p:=h
set_option maxHeartbeats 800000 in
theorem C2l (x:List Cel) (was:List Cel) (from_:Int) (to_:Int) (pen:Sty) (xq:Option Addr) (xk:Nat) (g:Option Addr) (f:Nat) (cy:x.length≤9223372036854775807) (cr:x.length≤xk) (c1:was.length≤9223372036854775807) (bz:was.length≤f) (b9:(∀ c ∈ x,aR c.sty)∧aR pen) (R:Bool) (hR:A6b x was from_ to_ pen=R):J5 Tryz.prog 3 [.slice xq x.length xk,.slice g was.length f,iv from_,iv to_,ag (B3 pen)] [sl C0 xq x,sl C0 g was,P6,P7,O0,M9,K6,P4] (bv R):=by
 refine bZ Tryz.func3 fun X hX hr hD=>?_
 replace hR:=(A6b.eq_1 ..).symm.trans hR
 refine bN rfl (B2b 2 0 [] (fun b1=>[(9,pt b1 0)]) (fun b1=>[bx b1 (B3 pen) 26]) (fun b1=>(ie (A5 (bN rfl (zv rfl (D2g _ rfl) (ip' 1 0 [(19,bv (!B0e))] (ie ?_))))))))
 refine zjb rfl hR ?_ ?_<;>clear hR<;>intro hR h2
 ·refine bN rfl (ip' 1 0 [(10,bv false)] ?_)
  subst hR
  refine ie (A8 ?_)
  exact G0 hr hD
 refine A4 (nx (bN rfl (bY 4 11 [0] [(21,.slice xq x.length xk),(22,iv from_),(23,iv to_),(24,ag (B3 pen))] ?_)))
 have hQ:=C9 hR;clear hR;obtain ⟨u,ah,hR⟩:=hQ
 refine zc rfl (B2g ah) fun ⟨r3,b3⟩=>?_
 have:=bR.le b3
 have:=bR.cap b3
 have:=A9x x from_ to_ pen;try rw [ah] at this
 obtain ⟨_,_,_⟩:=this
 refine A3t [bx b1 (B3 pen) 26] [] (T:=60) (c:=A1) (r:=r3) (xs:=u.1) b3 opv ?_
 refine B2b 10 0 [0] (fun b5=>[(12,pt b5 0),(11,.slice (va r3.q) u.1.length r3.k),(13,iv u.2.2.1),(14,iv u.2.2.2)]) (fun b5=>[bx b5 (B3 u.2.1) 26,bx b1 (B3 pen) 26]) (fun b5=>?_)
 refine ie (A5 (bN rfl (ip' 2 0 [(31,bv (!decide (u.2.2.2=0)))] (ie ?_))))
 refine zjn rfl hR ?_ ?_<;>clear hR<;>intro hR h6 br
 ·refine bN rfl (ip' 4 0 [(10,bv (decide ((u.1.length:Int)=0)))] ?_)
  subst hR
  refine ie (A8 ?_)
  exact G0 hr hD
 have au:u.2.2.2=0:=by have:=br;omega
 have bg:=D3m (x:=x) (from_:=from_) (to_:=to_) (s:=pen) (by rw [ah];exact au)
 have cd:=bg.lim
 refine A4 (nx (A5 (bN rfl (ip' 6 33 [(40,bv (!decide ((was.length:Int)=(x.length:Int))))] ?_))))
 refine zio 5 28 40 45 (!decide ((G5 was false)=0)) (fun g7=>?_) ?_
 ·have cw:=bU g7
  refine bY 2 3 [] [(42,ag [.slice g was.length f,bv false])] (zv rfl (A7p rfl) (ip' 2 0 [(45,bv (!decide ((G5 was false)=0)))] ?_))
  exact zai 4 40 45 g7
 refine ip' 1 27 [(46,bv ((!decide ((was.length:Int)=(x.length:Int)))||(!decide ((G5 was false)=0))))] ?_
 refine zio 5 22 46 51 (decide (from_=(x.length:Int))) (fun g8=>?_) ?_
 ·have cn:=bU g8
  refine ip' 5 0 [(51,bv (decide (from_=(x.length:Int))))] ?_
  exact zai 2 46 51 g8
 refine ip' 1 21 [(52,bv (((!decide ((was.length:Int)=(x.length:Int)))||(!decide ((G5 was false)=0)))||(decide (from_=(x.length:Int)))))] ?_
 refine zio 7 14 52 59 (decide ((was.getD ((from_).toNat) Cel.zero).wide=2)) (fun g9=>?_) ?_
 ·have cm:=bU g9
  refine ip' 2 5 [(53,.slice g was.length f),(54,iv from_)] (L9 2 rfl opx fun bw an=>(ix rfl (H9 W9 rfl rfl an rfl ((from_).toNat) opx ohm) (ip' 1 3 [(56,pa ((Addr.add bw (((from_).toNat) * 12)).add 3))] (ix rfl (F2 cA rfl rfl (B6q (K2 (c:=C0) (sz:=12) an (fun _=>rfl) 2 rfl (gd Cel.zero ohm)) (ws:=[iv ((was.getD ((from_).toNat) Cel.zero).wide)]) 3 1 rfl) rfl) (ip' 2 0 [(59,bv (decide ((was.getD ((from_).toNat) Cel.zero).wide=2)))] ?_)))))
  exact zai 7 52 59 g9
 refine ip' 1 13 [(60,bv ((((!decide ((was.length:Int)=(x.length:Int)))||(!decide ((G5 was false)=0)))||(decide (from_=(x.length:Int))))||(decide ((was.getD ((from_).toNat) Cel.zero).wide=2))))] ?_
 refine zio 13 0 60 73 ((decide (to_<(x.length:Int)))&&(decide ((was.getD ((to_).toNat) Cel.zero).wide=2))) (fun bh=>?_) ?_
 ·have cc:=bU bh
  refine ip' 5 8 [(65,bv (decide (to_<(x.length:Int))))] ?_
  refine zid 7 1 65 72 (decide ((was.getD ((to_).toNat) Cel.zero).wide=2)) (fun bo c3=>?_) ?_
  ·refine ip' 2 5 [(66,.slice g was.length f),(67,iv to_)] (L9 2 rfl opx fun c2 ar=>(ix rfl (H9 W9 rfl rfl ar rfl ((to_).toNat) opx ohm) (ip' 1 3 [(69,pa ((Addr.add c2 (((to_).toNat) * 12)).add 3))] (ix rfl (F2 cA rfl rfl (B6q (K2 (c:=C0) (sz:=12) ar (fun _=>rfl) 2 rfl (gd Cel.zero ohm)) (ws:=[iv ((was.getD ((to_).toNat) Cel.zero).wide)]) 3 1 rfl) rfl) (ip' 2 0 [(72,bv (decide ((was.getD ((to_).toNat) Cel.zero).wide=2)))] ?_)))))
   exact zai 7 65 72 bo
  refine ip' 1 0 [(73,bv ((decide (to_<(x.length:Int)))&&(decide ((was.getD ((to_).toNat) Cel.zero).wide=2))))] ?_
  exact zai 4 60 73 bh
 refine ie ?_
 refine zjb rfl hR ?_ ?_<;>clear hR<;>intro hR b7
 ·have bk:=bU b7
  refine bN rfl (ip' 1 0 [(10,bv true)] ?_)
  subst hR
  refine ie (A8 ?_)
  exact G0 hr hD
 have bk:=bU b7
 have hA:=E1t (x:=x) (was:=was) (from_:=from_) (to_:=to_) (pen:=pen) ah au b7
 have ct:=hA.len
 refine A4 (nx (bN rfl (ip' 2 7 [(76,iv (x.length:Int))] ?_)))
 have hQ:=C9 hR;clear hR;obtain ⟨d,ai,hR⟩:=hQ
 refine zc rfl (D3g ai) fun ⟨⟨⟨af,e⟩,ax⟩,⟨⟨j,ad⟩,az⟩,⟨h,ao⟩⟩=>?_
 try dsimp only at ax
 obtain ⟨ak,z⟩:=ax
 try dsimp only at az
 obtain ⟨aj,al⟩:=az
 have:=bR.le ak
 have:=bR.le aj
 have:=bR.le ao
 have:=bR.cap ak
 have:=bR.cap aj
 have:=bR.cap ao
 have:=z.1
 have:=al.1
 have a9:=C5l (x.length:Int) 2;rw [ai] at a9;have aa:=C9r (x.length:Int) 2;rw [ai] at aa
 refine A3t [bx b5 (B3 u.2.1) 26,bx b1 (B3 pen) 26] ((vo G2 34 j ad)++((vo R7 4 h d.2.2.2.1)++([]))) (T:=34) (c:=G2) (r:=af) (xs:=e) (bR.cast ak (by rw [z.1])) opv ?_
 refine A3t [bx b5 (B3 u.2.1) 26,bx b1 (B3 pen) 26] ((vo R7 4 h d.2.2.2.1)++([])) (T:=34) (c:=G2) (r:=j) (xs:=ad) (bR.cast aj (by rw [al.1])) opv ?_
 refine A3t [bx b5 (B3 u.2.1) 26,bx b1 (B3 pen) 26] [] (T:=4) (c:=R7) (r:=h) (xs:=d.2.2.2.1) ao opv ?_
 refine B2b 6 0 [0] (fun y=>[(15,pt y 0),(14,iv d.2.2.2.2)]) (fun y=>[bx y (aG d.1 (va af.q) d.2.1 af.k (va j.q) d.2.2.1 j.k (va h.q) d.2.2.2.1 h.k) 50,bx b5 (B3 u.2.1) 26,bx b1 (B3 pen) 26]) (fun y=>?_)
 refine ie (A5 (bN rfl (ip' 2 0 [(81,bv (!decide (d.2.2.2.2=0)))] (ie ?_))))
 refine zjn rfl hR ?_ ?_<;>clear hR<;>intro hR cp cj
 ·refine bN rfl (ip' 1 0 [(10,bv false)] ?_)
  subst hR
  refine ie (A8 ?_)
  exact G0 hr hD
 have cv:=E8e bg.row.len ai
 have bj:=E8f b9 hA ah ai
 have ca:=bj.1
 have co:=bj.2
 refine A4 (nx (bN rfl (bY 4 5 [0] [(83,ag [.slice g was.length f,bv false]),(85,.slice (va af.q) d.2.1.length af.k)] (L9 2 rfl (by have:=z.1;omega) fun cq aq=>(D7 (C7p (k:=1) z 3 rfl (by have:=z.1;first|omega|exact Nat.le_refl 2)) ?_)))))
 have:=B8c z (k:=1) (by have:=z.1;first|omega|exact Nat.le_refl 2)
 refine ix rfl (H9 B1r rfl rfl aq rfl 1 rfl ohm) (ix rfl (G9 (K5 (us:=[.slice ((e.getD 1 cF).s.q) ((e.getD 1 cF).s.n) ((e.getD 1 cF).s.k),bv ((e.getD 1 cF).b)]) A3w rfl rfl (K2 (c:=G2) (sz:=2) aq (fun _=>rfl) 3 rfl (gd cF (by have:=z.1;first|omega|exact Nat.le_refl 2))) rfl) (D6v z (by have:=z.1;first|omega|exact Nat.le_refl 2))) (it rfl (C1 (c:=G2) (xs:=([⟨⟨g,was.length,f⟩,false⟩,⟨⟨(e.getD 1 cF).s.q,(d.2.1.getD 1 bS).l.length,(e.getD 1 cF).s.k⟩,(d.2.1.getD 1 bS).b⟩]:List Rwq)) B1r rfl rfl rfl oki) fun w=>?_))
 have p:F1 ([⟨⟨g,was.length,f⟩,false⟩,⟨⟨(e.getD 1 cF).s.q,(d.2.1.getD 1 bS).l.length,(e.getD 1 cF).s.k⟩,(d.2.1.getD 1 bS).b⟩]:List Rwq) ([⟨was,false⟩,⟨(d.2.1.getD 1 bS).l,(d.2.1.getD 1 bS).b⟩]:List (Rwc Cel)):=(F1.cons ⟨ooy,okl,okl⟩ rfl (F1.cons ⟨ooy,okl,okl⟩ rfl F1.none))
 refine D7 (q:=E7 C0 ([⟨⟨g,was.length,f⟩,false⟩,⟨⟨(e.getD 1 cF).s.q,(d.2.1.getD 1 bS).l.length,(e.getD 1 cF).s.k⟩,(d.2.1.getD 1 bS).b⟩]:List Rwq) ([⟨was,false⟩,⟨(d.2.1.getD 1 bS).l,(d.2.1.getD 1 bS).b⟩]:List (Rwc Cel))) (E6b (B8 9 rfl) (E6b (B8 1 rfl) B7l)) ?_
 have:([⟨⟨g,was.length,f⟩,false⟩,⟨⟨(e.getD 1 cF).s.q,(d.2.1.getD 1 bS).l.length,(e.getD 1 cF).s.k⟩,(d.2.1.getD 1 bS).b⟩]:List Rwq).length=2:=rfl
 refine zrg 2 0 [0] [] [bx y (C8 d.1 ⟨some ⟨w,0,none⟩,([⟨was,false⟩,⟨(d.2.1.getD 1 bS).l,(d.2.1.getD 1 bS).b⟩]:List (Rwc Cel)).length,2⟩ ⟨va j.q,d.2.2.1.length,j.k⟩ ⟨none,0,0⟩ ⟨va h.q,d.2.2.2.1.length,h.k⟩) 50,bx b5 (B3 u.2.1) 26,bx b1 (B3 pen) 26] (ie (sh 7 [(4,[bx y (C8 d.1 ⟨some ⟨w,0,none⟩,([⟨was,false⟩,⟨(d.2.1.getD 1 bS).l,(d.2.1.getD 1 bS).b⟩]:List (Rwc Cel)).length,2⟩ ⟨va j.q,d.2.2.1.length,j.k⟩ ⟨none,0,0⟩ ⟨va h.q,d.2.2.2.1.length,h.k⟩) 50]),(7,[bx b5 (B3 u.2.1) 26]),(7,[bx b1 (B3 pen) 26])] [E7 C0 ([⟨⟨g,was.length,f⟩,false⟩,⟨⟨(e.getD 1 cF).s.q,(d.2.1.getD 1 bS).l.length,(e.getD 1 cF).s.k⟩,(d.2.1.getD 1 bS).b⟩]:List Rwq) ([⟨was,false⟩,⟨(d.2.1.getD 1 bS).l,(d.2.1.getD 1 bS).b⟩]:List (Rwc Cel)),sl G2 (some ⟨w,0,none⟩) ([⟨⟨g,was.length,f⟩,false⟩,⟨⟨(e.getD 1 cF).s.q,(d.2.1.getD 1 bS).l.length,(e.getD 1 cF).s.k⟩,(d.2.1.getD 1 bS).b⟩]:List Rwq),sl C0 ((e.getD 1 cF).s.q) ((d.2.1.getD 1 bS).l),sl R7 (va h.q) d.2.2.2.1,sl G2 (va j.q) ad,sl G2 (va af.q) e,E7 C0 e d.2.1,E7 C0 ad d.2.2.1,sl A1 (va r3.q) u.1,sl C0 xq x,sl C0 g was,P6,P7,O0,M9,K6,P4] [bx y (C8 d.1 ⟨some ⟨w,0,none⟩,([⟨was,false⟩,⟨(d.2.1.getD 1 bS).l,(d.2.1.getD 1 bS).b⟩]:List (Rwc Cel)).length,2⟩ ⟨va j.q,d.2.2.1.length,j.k⟩ ⟨none,0,0⟩ ⟨va h.q,d.2.2.2.1.length,h.k⟩) 50,bx b5 (B3 u.2.1) 26,bx b1 (B3 pen) 26] (bV 7 0) oki rfl oki oki oki bQ A9.refl ?_))
 refine zhp [0] 6 (bV 7 1) [(90,iv from_)] ?_
 refine zhk 1 (bV 7 3) rfl (U8 (cs:=V7 ({Cur.zero with col:=from_})) rfl rfl oki) ?_
 refine zhp [3] 4 (bV 7 11) [(93,pt y 6)] ?_
 refine zhl 2 [bx b5 (B3 u.2.1) 26,bx b1 (B3 pen) 26] (bV 7 15) rfl (D6 (us:=B3 pen) A6y rfl rfl 1 rfl rfl rfl) ?_
 refine zho 4 [bx b5 (B3 u.2.1) 26,bx b1 (B3 pen) 26] (bV 7 31) rfl (D8 (us:=V7 ({Cur.zero with col:=from_})) (cs':=C8 ({d.1 with cursor:={Cur.zero with col:=from_}}) ⟨some ⟨w,0,none⟩,([⟨was,false⟩,⟨(d.2.1.getD 1 bS).l,(d.2.1.getD 1 bS).b⟩]:List (Rwc Cel)).length,2⟩ ⟨va j.q,d.2.2.1.length,j.k⟩ ⟨none,0,0⟩ ⟨va h.q,d.2.2.2.1.length,h.k⟩) D6w rfl rfl rfl 0 rfl rfl rfl rfl rfl rfl) (fun _=>bQ) (fun _=>A9.refl) fun _=>?_
 refine zhp [5] 1 (bV 7 63) [(94,pt y 9)] ?_
 refine zho 6 [bx b5 (B3 u.2.1) 26,bx b1 (B3 pen) 26] (bV 7 127) rfl (D8 (us:=B3 pen) (cs':=C8 ({d.1 with cursor:={Cur.zero with col:=from_},style:=pen}) ⟨some ⟨w,0,none⟩,([⟨was,false⟩,⟨(d.2.1.getD 1 bS).l,(d.2.1.getD 1 bS).b⟩]:List (Rwc Cel)).length,2⟩ ⟨va j.q,d.2.2.1.length,j.k⟩ ⟨none,0,0⟩ ⟨va h.q,d.2.2.2.1.length,h.k⟩) A6y rfl rfl rfl 0 rfl rfl rfl rfl rfl rfl) (fun _=>bQ) (fun _=>A9.refl) fun _=>?_
 refine B1f oki ?_
 refine bN rfl (bY 2 7 [0] [(96,ag (C8 ({d.1 with cursor:={Cur.zero with col:=from_},style:=pen}) ⟨some ⟨w,0,none⟩,([⟨was,false⟩,⟨(d.2.1.getD 1 bS).l,(d.2.1.getD 1 bS).b⟩]:List (Rwc Cel)).length,2⟩ ⟨va j.q,d.2.2.1.length,j.k⟩ ⟨none,0,0⟩ ⟨va h.q,d.2.2.2.1.length,h.k⟩)),(97,.slice (va r3.q) u.1.length r3.k)] ?_)
 have hQ:=C9 hR;clear hR;obtain ⟨o,bn,hR⟩:=hQ
 refine zc rfl (D4w bn p bP bP al) fun ⟨⟨⟨a0,m,a4⟩,ay⟩,⟨⟨a8,b2,ab⟩,aw⟩,⟨⟨a7,ac⟩,bd⟩⟩=>?_
 try dsimp only at ay
 obtain ⟨t,cf,cg⟩:=ay
 try dsimp only at aw
 obtain ⟨ba,c7,c4⟩:=aw
 obtain ⟨c5,c8⟩:=bd
 have:=t.1
 have:=ba.1
 refine D7 (q:=sl G2 a0 m) (B8 0 rfl) ?_
 refine D7 (q:=E7 C0 m o.2.1) (B8 2 rfl) ?_
 refine B2b 6 0 [0] (fun a2=>[(16,pt a2 0),(14,iv o.2.2.2.2)]) (fun a2=>[bx a2 (aG o.1 a0 o.2.1 a4 a8 o.2.2.1 ab a7 o.2.2.2.1 ac) 50,bx y (C8 ({d.1 with cursor:={Cur.zero with col:=from_},style:=pen}) ⟨some ⟨w,0,none⟩,([⟨was,false⟩,⟨(d.2.1.getD 1 bS).l,(d.2.1.getD 1 bS).b⟩]:List (Rwc Cel)).length,2⟩ ⟨va j.q,d.2.2.1.length,j.k⟩ ⟨none,0,0⟩ ⟨va h.q,d.2.2.2.1.length,h.k⟩) 50,bx b5 (B3 u.2.1) 26,bx b1 (B3 pen) 26]) (fun a2=>?_)
 refine ie (A5 (bN rfl (ip' 3 20 [(103,bv (!decide (o.2.2.2.2=0)))] ?_)))
 refine zio 5 15 103 108 (!(decide (o.1.style=u.2.1))) (fun be=>?_) ?_
 ·have ci:=bU be
  refine bY 3 2 [0,2] [(105,ag (B3 o.1.style)),(106,ag (B3 u.2.1))] (ix rfl (X1 (a:=o.1.style) (b:=u.2.1) E1k rfl rfl rfl) (ip' 1 0 [(108,bv (!(decide (o.1.style=u.2.1))))] ?_))
  exact A3 (O6 5 103 108 be c9 bQ rfl rfl rfl rfl rfl)
 refine ip' 1 14 [(109,bv ((!decide (o.2.2.2.2=0))||(!(decide (o.1.style=u.2.1)))))] ?_
 refine zio 14 0 109 123 (!(decide (o.1.cursor={Cur.zero with col:=(if ((x.length:Int) - 1)<u.2.2.1 then ((x.length:Int) - 1) else u.2.2.1),wrap:=(decide (u.2.2.1=(x.length:Int)))}))) (fun bb=>?_) ?_
 ·have ck:=bU bb
  refine bY 5 9 [0] [(111,ag (V7 o.1.cursor)),(112,iv u.2.2.1),(114,iv (x.length:Int))] (ix rfl (Q6 rfl rfl rfl rfl opx) (bY 6 2 [] [(121,ag (V7 ({Cur.zero with col:=(if ((x.length:Int) - 1)<u.2.2.1 then ((x.length:Int) - 1) else u.2.2.1),wrap:=(decide (u.2.2.1=(x.length:Int)))})))] (ix rfl (X1 (a:=o.1.cursor) (b:={Cur.zero with col:=(if ((x.length:Int) - 1)<u.2.2.1 then ((x.length:Int) - 1) else u.2.2.1),wrap:=(decide (u.2.2.1=(x.length:Int)))}) F3z rfl rfl rfl) (ip' 1 0 [(123,bv (!(decide (o.1.cursor={Cur.zero with col:=(if ((x.length:Int) - 1)<u.2.2.1 then ((x.length:Int) - 1) else u.2.2.1),wrap:=(decide (u.2.2.1=(x.length:Int)))}))))] ?_))))
  exact A3 (O6 8 109 123 bb c9 bQ rfl rfl rfl rfl rfl)
 refine ie ?_
 refine zjb rfl hR ?_ ?_<;>clear hR<;>intro hR bi
 ·have bl:=bU bi
  refine bN rfl (ip' 1 0 [(10,bv false)] ?_)
  subst hR
  refine ie (A8 ?_)
  exact G0 hr hD
 have bl:=bU bi
 have cu:=E6t b9 hA ah ai bn
 refine A4 (nx (A8m (E8i (B8 17 rfl) ((from_).toNat)) ?_))
 refine A8m (E0x (c:=C0) (sz:=12) (xs:=x) (B8 17 rfl) ((from_).toNat) ((to_).toNat) xk (fun _=>rfl) rfl ohm ohm) ?_
 refine A8m (D5i (c:=C0) (sz:=12) (xs:=was) (B8 19 rfl) ((to_).toNat) f (fun _=>rfl) ohm ohm) ?_
 refine sh 13 [(13,[bx a2 (aG o.1 a0 o.2.1 a4 a8 o.2.2.1 ab a7 o.2.2.2.1 ac) 50]),(13,[bx y (C8 ({d.1 with cursor:={Cur.zero with col:=from_},style:=pen}) ⟨some ⟨w,0,none⟩,([⟨was,false⟩,⟨(d.2.1.getD 1 bS).l,(d.2.1.getD 1 bS).b⟩]:List (Rwc Cel)).length,2⟩ ⟨va j.q,d.2.2.1.length,j.k⟩ ⟨none,0,0⟩ ⟨va h.q,d.2.2.2.1.length,h.k⟩) 50]),(13,[bx b5 (B3 u.2.1) 26]),(13,[bx b1 (B3 pen) 26])] [sl C0 (A9p g ((to_).toNat) 12 f) (was.drop ((to_).toNat)),sl C0 (A9p xq ((from_).toNat) 12 xk) ((x.drop ((from_).toNat)).take (((to_).toNat) - ((from_).toNat))),sl C0 g (was.take ((from_).toNat)),E7 C0 m o.2.1,sl G2 a0 m,sl G2 a0 m,E7 C0 m o.2.1,sl G2 a8 b2,E7 C0 b2 o.2.2.1,sl R7 a7 o.2.2.2.1,E7 C0 ([⟨⟨g,was.length,f⟩,false⟩,⟨⟨(e.getD 1 cF).s.q,(d.2.1.getD 1 bS).l.length,(e.getD 1 cF).s.k⟩,(d.2.1.getD 1 bS).b⟩]:List Rwq) ([⟨was,false⟩,⟨(d.2.1.getD 1 bS).l,(d.2.1.getD 1 bS).b⟩]:List (Rwc Cel)),sl G2 (some ⟨w,0,none⟩) ([⟨⟨g,was.length,f⟩,false⟩,⟨⟨(e.getD 1 cF).s.q,(d.2.1.getD 1 bS).l.length,(e.getD 1 cF).s.k⟩,(d.2.1.getD 1 bS).b⟩]:List Rwq),sl C0 ((e.getD 1 cF).s.q) ((d.2.1.getD 1 bS).l),sl R7 (va h.q) d.2.2.2.1,sl G2 (va j.q) ad,sl G2 (va af.q) e,E7 C0 e d.2.1,E7 C0 ad d.2.2.1,sl A1 (va r3.q) u.1,sl C0 xq x,sl C0 g was,P6,P7,O0,M9,K6,P4] [bx a2 (aG o.1 a0 o.2.1 a4 a8 o.2.2.1 ab a7 o.2.2.2.1 ac) 50,bx y (C8 ({d.1 with cursor:={Cur.zero with col:=from_},style:=pen}) ⟨some ⟨w,0,none⟩,([⟨was,false⟩,⟨(d.2.1.getD 1 bS).l,(d.2.1.getD 1 bS).b⟩]:List (Rwc Cel)).length,2⟩ ⟨va j.q,d.2.2.1.length,j.k⟩ ⟨none,0,0⟩ ⟨va h.q,d.2.2.2.1.length,h.k⟩) 50,bx b5 (B3 u.2.1) 26,bx b1 (B3 pen) 26] (bV 13 0) oki rfl oki oki oki bQ A9.refl ?_
 refine zhp [0,1,3,4,5,7,8] 6 (bV 13 443) [(124,.slice g was.length f),(125,iv from_),(127,.slice xq x.length xk),(128,iv from_),(129,iv to_),(131,.slice g was.length f),(132,iv to_)] ?_
 refine zhk 2 (bV 13 447) rfl (C5c (n':=(was.take ((from_).toNat)).length) W9 rfl rfl ((from_).toNat) f (A0i rfl opx) A1n ohm ohm okt rfl) ?_
 have:=@List.length_take _ ((from_).toNat) was
 refine zhk 6 (bV 13 511) rfl (A9y (n':=((x.drop ((from_).toNat)).take (((to_).toNat) - ((from_).toNat))).length) W9 rfl rfl ((from_).toNat) ((to_).toNat) xk (A0i rfl opx) (A0i rfl opx) A1n ohm ohm ohm okt rfl) ?_
 have:=@List.length_drop _ ((from_).toNat) x
 have:=@List.length_take _ (((to_).toNat) - ((from_).toNat)) (x.drop ((from_).toNat))
 refine zhk 9 (bV 13 1023) rfl (A9y (n':=(was.drop ((to_).toNat)).length) W9 rfl rfl ((to_).toNat) was.length f (A0i rfl opx) A1n A1n ohm ohm ohm okt rfl) ?_
 have:=@List.length_drop _ ((to_).toNat) was
 refine zho 10 [bx a2 (aG o.1 a0 o.2.1 a4 a8 o.2.2.1 ab a7 o.2.2.2.1 ac) 50,bx y (C8 ({d.1 with cursor:={Cur.zero with col:=from_},style:=pen}) ⟨some ⟨w,0,none⟩,([⟨was,false⟩,⟨(d.2.1.getD 1 bS).l,(d.2.1.getD 1 bS).b⟩]:List (Rwc Cel)).length,2⟩ ⟨va j.q,d.2.2.1.length,j.k⟩ ⟨none,0,0⟩ ⟨va h.q,d.2.2.2.1.length,h.k⟩) 50,bx b5 (B3 u.2.1) 26,bx b1 (B3 pen) 26] (bV 13 2047) rfl (C1 (c:=A3d) (xs:=([⟨g,(was.take ((from_).toNat)).length,f⟩,⟨(A9p xq ((from_).toNat) 12 xk),((x.drop ((from_).toNat)).take (((to_).toNat) - ((from_).toNat))).length,(xk - ((from_).toNat))⟩,⟨(A9p g ((to_).toNat) 12 f),(was.drop ((to_).toNat)).length,(f - ((to_).toNat))⟩]:List Slc)) E6h rfl rfl rfl oki) (fun b4=>bQ) (fun b4=>c9) fun b4=>?_
 have am:I4 ([⟨g,(was.take ((from_).toNat)).length,f⟩,⟨(A9p xq ((from_).toNat) 12 xk),((x.drop ((from_).toNat)).take (((to_).toNat) - ((from_).toNat))).length,(xk - ((from_).toNat))⟩,⟨(A9p g ((to_).toNat) 12 f),(was.drop ((to_).toNat)).length,(f - ((to_).toNat))⟩]:List Slc) ([(was.take ((from_).toNat)),((x.drop ((from_).toNat)).take (((to_).toNat) - ((from_).toNat))),(was.drop ((to_).toNat))]:List (List Cel)):=(I4.cons ⟨ooy,okl,okl⟩ (I4.cons ⟨ooy,okl,okl⟩ (I4.cons ⟨ooy,okl,okl⟩ I4.none)))
 refine D7k (q:=U6 C0 ([⟨g,(was.take ((from_).toNat)).length,f⟩,⟨(A9p xq ((from_).toNat) 12 xk),((x.drop ((from_).toNat)).take (((to_).toNat) - ((from_).toNat))).length,(xk - ((from_).toNat))⟩,⟨(A9p g ((to_).toNat) 12 f),(was.drop ((to_).toNat)).length,(f - ((to_).toNat))⟩]:List Slc) ([(was.take ((from_).toNat)),((x.drop ((from_).toNat)).take (((to_).toNat) - ((from_).toNat))),(was.drop ((to_).toNat))]:List (List Cel))) (A9b (B8 3 rfl) (A9b (B8 2 rfl) (A9b (B8 1 rfl) A1a))) ?_
 have:([⟨g,(was.take ((from_).toNat)).length,f⟩,⟨(A9p xq ((from_).toNat) 12 xk),((x.drop ((from_).toNat)).take (((to_).toNat) - ((from_).toNat))).length,(xk - ((from_).toNat))⟩,⟨(A9p g ((to_).toNat) 12 f),(was.drop ((to_).toNat)).length,(f - ((to_).toNat))⟩]:List Slc).length=3:=rfl
 have hQ:=C9 hR;clear hR;obtain ⟨y3,bc,hR⟩:=hQ
 refine zho 11 [bx a2 (aG o.1 a0 o.2.1 a4 a8 o.2.2.1 ab a7 o.2.2.2.1 ac) 50,bx y (C8 ({d.1 with cursor:={Cur.zero with col:=from_},style:=pen}) ⟨some ⟨w,0,none⟩,([⟨was,false⟩,⟨(d.2.1.getD 1 bS).l,(d.2.1.getD 1 bS).b⟩]:List (Rwc Cel)).length,2⟩ ⟨va j.q,d.2.2.1.length,j.k⟩ ⟨none,0,0⟩ ⟨va h.q,d.2.2.2.1.length,h.k⟩) 50,bx b5 (B3 u.2.1) 26,bx b1 (B3 pen) 26] (bV 13 4095) rfl (J7 (L2:=[bx a2 (aG o.1 a0 o.2.1 a4 a8 o.2.2.1 ab a7 o.2.2.2.1 ac) 50,bx y (C8 ({d.1 with cursor:={Cur.zero with col:=from_},style:=pen}) ⟨some ⟨w,0,none⟩,([⟨was,false⟩,⟨(d.2.1.getD 1 bS).l,(d.2.1.getD 1 bS).b⟩]:List (Rwc Cel)).length,2⟩ ⟨va j.q,d.2.2.1.length,j.k⟩ ⟨none,0,0⟩ ⟨va h.q,d.2.2.2.1.length,h.k⟩) 50,bx b5 (B3 u.2.1) 26,bx b1 (B3 pen) 26]) (A7t (slices:=([(was.take ((from_).toNat)),((x.drop ((from_).toNat)).take (((to_).toNat) - ((from_).toNat))),(was.drop ((to_).toNat))]:List (List Cel))) (slicesq:=(some ⟨b4,0,none⟩)) (slicesrs:=([⟨g,(was.take ((from_).toNat)).length,f⟩,⟨(A9p xq ((from_).toNat) 12 xk),((x.drop ((from_).toNat)).take (((to_).toNat) - ((from_).toNat))).length,(xk - ((from_).toNat))⟩,⟨(A9p g ((to_).toNat) 12 f),(was.drop ((to_).toNat)).length,(f - ((to_).toNat))⟩]:List Slc)) (slicesk:=3) bc am bP bP bP (by intro i hi;simp only [List.length_cons,List.length_nil] at hi;match i,hi with|0,_=>(simp only [List.getD_cons_zero,List.length_take,List.length_drop];omega)|1,_=>(simp only [List.getD_cons_zero,List.getD_cons_succ,List.length_take,List.length_drop];omega)|2,_=>(simp only [List.getD_cons_zero,List.getD_cons_succ,List.length_take,List.length_drop];omega))) rfl rfl rfl rfl rfl c9 (List.Perm.refl _) (fun ⟨a5,a1⟩=>(bx a2 (aG o.1 a0 o.2.1 a4 a8 o.2.2.1 ab a7 o.2.2.2.1 ac) 50::bx y (C8 ({d.1 with cursor:={Cur.zero with col:=from_},style:=pen}) ⟨some ⟨w,0,none⟩,([⟨was,false⟩,⟨(d.2.1.getD 1 bS).l,(d.2.1.getD 1 bS).b⟩]:List (Rwc Cel)).length,2⟩ ⟨va j.q,d.2.2.1.length,j.k⟩ ⟨none,0,0⟩ ⟨va h.q,d.2.2.2.1.length,h.k⟩) 50::bx b5 (B3 u.2.1) 26::bx b1 (B3 pen) 26::((vo C0 37 a5 y3)++([])))) (fun ⟨a5,a1⟩=>H2 [vo C0 37 a5 y3,[bx a2 (aG o.1 a0 o.2.1 a4 a8 o.2.2.1 ab a7 o.2.2.2.1 ac) 50],[bx y (C8 ({d.1 with cursor:={Cur.zero with col:=from_},style:=pen}) ⟨some ⟨w,0,none⟩,([⟨was,false⟩,⟨(d.2.1.getD 1 bS).l,(d.2.1.getD 1 bS).b⟩]:List (Rwc Cel)).length,2⟩ ⟨va j.q,d.2.2.1.length,j.k⟩ ⟨none,0,0⟩ ⟨va h.q,d.2.2.2.1.length,h.k⟩) 50],[bx b5 (B3 u.2.1) 26],[bx b1 (B3 pen) 26]] [1,2,3,4,0] 5 rfl ozw opv [[bx a2 (aG o.1 a0 o.2.1 a4 a8 o.2.2.1 ab a7 o.2.2.2.1 ac) 50],[bx y (C8 ({d.1 with cursor:={Cur.zero with col:=from_},style:=pen}) ⟨some ⟨w,0,none⟩,([⟨was,false⟩,⟨(d.2.1.getD 1 bS).l,(d.2.1.getD 1 bS).b⟩]:List (Rwc Cel)).length,2⟩ ⟨va j.q,d.2.2.1.length,j.k⟩ ⟨none,0,0⟩ ⟨va h.q,d.2.2.2.1.length,h.k⟩) 50],[bx b5 (B3 u.2.1) 26],[bx b1 (B3 pen) 26],vo C0 37 a5 y3] rfl opv)) (fun ⟨a5,a1⟩=>bQ) (fun ⟨a5,a1⟩=>c9) fun ⟨a5,a1⟩=>?_
 have:=bR.le a1
 have:=bR.cap a1
 have bp:=A1l ([(was.take ((from_).toNat)),((x.drop ((from_).toNat)).take (((to_).toNat) - ((from_).toNat))),(was.drop ((to_).toNat))]:List (List Cel));rw [bc] at bp
 refine zhp [12] 0 (bV 13 8191) [(17,.slice (va a5.q) y3.length a5.k)] ?_
 refine B1f oki ?_
 have:=bR.cap a1
 have:=bR.le a1
 refine D5n [bx a2 (aG o.1 a0 o.2.1 a4 a8 o.2.2.1 ab a7 o.2.2.2.1 ac) 50,bx y (C8 ({d.1 with cursor:={Cur.zero with col:=from_},style:=pen}) ⟨some ⟨w,0,none⟩,([⟨was,false⟩,⟨(d.2.1.getD 1 bS).l,(d.2.1.getD 1 bS).b⟩]:List (Rwc Cel)).length,2⟩ ⟨va j.q,d.2.2.1.length,j.k⟩ ⟨none,0,0⟩ ⟨va h.q,d.2.2.2.1.length,h.k⟩) 50,bx b5 (B3 u.2.1) 26,bx b1 (B3 pen) 26] [] (T:=37) (c:=C0) (r:=a5) (xs:=y3) a1 opv ?_
 refine sd 21 rfl oki rfl ?_
 refine zdg 2 19 [0] [(137,.slice a0 o.2.1.length a4)] ?_
 refine C0e 7 rfl (by have:=t.1;omega) fun bm ae=>?_
 refine C5b (C7p (k:=0) t 6 rfl (by have:=t.1;first|omega|exact Nat.le_refl 2)) ?_
 have:=B8c t (k:=0) (by have:=t.1;first|omega|exact Nat.le_refl 2)
 refine dd rfl (H9 B1r rfl rfl ae rfl 0 rfl ohm) (dp' 1 17 [(139,pa (Addr.add bm (0 * 2)))] (dd rfl (G9 (F2 (v:=.slice ((m.getD 0 cF).s.q) ((m.getD 0 cF).s.n) ((m.getD 0 cF).s.k)) (us:=[.slice ((m.getD 0 cF).s.q) ((m.getD 0 cF).s.n) ((m.getD 0 cF).s.k)]) D5w rfl rfl (A2w (K2 (c:=G2) (sz:=2) ae (fun _=>rfl) 8 rfl (gd cF (by have:=t.1;first|omega|exact Nat.le_refl 2))) (ws:=[.slice ((m.getD 0 cF).s.q) ((m.getD 0 cF).s.n) ((m.getD 0 cF).s.k)]) 1 rfl) rfl) (E5n t (by have:=t.1;first|omega|exact Nat.le_refl 2))) (dp' 1 15 [(141,.slice (va a5.q) y3.length a5.k)] (zvd rfl (A2e rfl) (dp' 1 13 [(143,bv (G1 ((o.2.1.getD 0 bS).l) y3))] ?_)))))
 refine zda 12 1 143 155 (G1 ((o.2.1.getD 1 bS).l) ((([⟨was,false⟩,⟨(d.2.1.getD 1 bS).l,(d.2.1.getD 1 bS).b⟩]:List (Rwc Cel)).getD 1 bS).l)) (fun c0=>?_) ?_
 ·refine zdg 2 10 [0] [(145,.slice a0 o.2.1.length a4)] ?_
  refine C5b (C7p (k:=1) t 7 rfl (by have:=t.1;first|omega|exact Nat.le_refl 2)) ?_
  have:=B8c t (k:=1) (by have:=t.1;first|omega|exact Nat.le_refl 2)
  refine dd rfl (H9 B1r rfl rfl ae rfl 1 rfl ohm) (dp' 1 8 [(147,pa (Addr.add bm (1 * 2)))] (dd rfl (G9 (F2 (v:=.slice ((m.getD 1 cF).s.q) ((m.getD 1 cF).s.n) ((m.getD 1 cF).s.k)) (us:=[.slice ((m.getD 1 cF).s.q) ((m.getD 1 cF).s.n) ((m.getD 1 cF).s.k)]) D5w rfl rfl (A2w (K2 (c:=G2) (sz:=2) ae (fun _=>rfl) 9 rfl (gd cF (by have:=t.1;first|omega|exact Nat.le_refl 2))) (ws:=[.slice ((m.getD 1 cF).s.q) ((m.getD 1 cF).s.n) ((m.getD 1 cF).s.k)]) 1 rfl) rfl) (E5n t (by have:=t.1;first|omega|exact Nat.le_refl 2))) ?_))
  refine zdg 2 5 [1] [(150,.slice (some ⟨w,0,none⟩) (([⟨was,false⟩,⟨(d.2.1.getD 1 bS).l,(d.2.1.getD 1 bS).b⟩]:List (Rwc Cel)).length) 2)] ?_
  have:([⟨⟨g,was.length,f⟩,false⟩,⟨⟨(e.getD 1 cF).s.q,(d.2.1.getD 1 bS).l.length,(e.getD 1 cF).s.k⟩,(d.2.1.getD 1 bS).b⟩]:List Rwq).length=2:=rfl
  refine C5b (C7p (k:=1) p 15 rfl (by have:=p.1;first|omega|exact Nat.le_refl 2)) ?_
  have:=B8c p (k:=1) (by have:=p.1;first|omega|exact Nat.le_refl 2)
  refine dd rfl (H9 B1r rfl rfl rfl rfl 1 rfl ohm) (dp' 1 3 [(152,pa (Addr.add ⟨w,0,none⟩ (1 * 2)))] (dd rfl (G9 (F2 (v:=.slice ((([⟨⟨g,was.length,f⟩,false⟩,⟨⟨(e.getD 1 cF).s.q,(d.2.1.getD 1 bS).l.length,(e.getD 1 cF).s.k⟩,(d.2.1.getD 1 bS).b⟩]:List Rwq).getD 1 cF).s.q) ((([⟨⟨g,was.length,f⟩,false⟩,⟨⟨(e.getD 1 cF).s.q,(d.2.1.getD 1 bS).l.length,(e.getD 1 cF).s.k⟩,(d.2.1.getD 1 bS).b⟩]:List Rwq).getD 1 cF).s.n) ((([⟨⟨g,was.length,f⟩,false⟩,⟨⟨(e.getD 1 cF).s.q,(d.2.1.getD 1 bS).l.length,(e.getD 1 cF).s.k⟩,(d.2.1.getD 1 bS).b⟩]:List Rwq).getD 1 cF).s.k)) (us:=[.slice ((([⟨⟨g,was.length,f⟩,false⟩,⟨⟨(e.getD 1 cF).s.q,(d.2.1.getD 1 bS).l.length,(e.getD 1 cF).s.k⟩,(d.2.1.getD 1 bS).b⟩]:List Rwq).getD 1 cF).s.q) ((([⟨⟨g,was.length,f⟩,false⟩,⟨⟨(e.getD 1 cF).s.q,(d.2.1.getD 1 bS).l.length,(e.getD 1 cF).s.k⟩,(d.2.1.getD 1 bS).b⟩]:List Rwq).getD 1 cF).s.n) ((([⟨⟨g,was.length,f⟩,false⟩,⟨⟨(e.getD 1 cF).s.q,(d.2.1.getD 1 bS).l.length,(e.getD 1 cF).s.k⟩,(d.2.1.getD 1 bS).b⟩]:List Rwq).getD 1 cF).s.k)]) D5w rfl rfl (A2w (K2 (c:=G2) (sz:=2) rfl (fun _=>rfl) 17 rfl (gd cF (by have:=p.1;first|omega|exact Nat.le_refl 2))) (ws:=[.slice ((([⟨⟨g,was.length,f⟩,false⟩,⟨⟨(e.getD 1 cF).s.q,(d.2.1.getD 1 bS).l.length,(e.getD 1 cF).s.k⟩,(d.2.1.getD 1 bS).b⟩]:List Rwq).getD 1 cF).s.q) ((([⟨⟨g,was.length,f⟩,false⟩,⟨⟨(e.getD 1 cF).s.q,(d.2.1.getD 1 bS).l.length,(e.getD 1 cF).s.k⟩,(d.2.1.getD 1 bS).b⟩]:List Rwq).getD 1 cF).s.n) ((([⟨⟨g,was.length,f⟩,false⟩,⟨⟨(e.getD 1 cF).s.q,(d.2.1.getD 1 bS).l.length,(e.getD 1 cF).s.k⟩,(d.2.1.getD 1 bS).b⟩]:List Rwq).getD 1 cF).s.k)]) 1 rfl) rfl) (E5n p (by have:=p.1;first|omega|exact Nat.le_refl 2))) (zvd rfl (A2e rfl) (dp' 1 0 [(155,bv (G1 ((o.2.1.getD 1 bS).l) ((([⟨was,false⟩,⟨(d.2.1.getD 1 bS).l,(d.2.1.getD 1 bS).b⟩]:List (Rwc Cel)).getD 1 bS).l)))] ?_))))
  exact zad 11 143 155 c0
 refine dp' 1 0 [(10,bv ((G1 ((o.2.1.getD 0 bS).l) y3)&&(G1 ((o.2.1.getD 1 bS).l) ((([⟨was,false⟩,⟨(d.2.1.getD 1 bS).l,(d.2.1.getD 1 bS).b⟩]:List (Rwc Cel)).getD 1 bS).l))))] ?_
 subst hR
 refine de (A8 ?_)
 exact G0 hr hD
theorem D5v:B0e=true:=by decide +kernel
theorem E4y (b:List Cel):∀ (l:List Cel) (i:Nat),l=b.drop i→K0 b l i=true
 | [],i,h=>rfl
 | a::l,i,h=>by
  have d:i<b.length:=by
   rcases Nat.lt_or_ge i b.length with c | c
   ·exact c
   ·rw [List.drop_of_length_le c] at h;cases h
  rw [List.drop_eq_getElem_cons d] at h
  obtain ⟨rfl,e⟩:=List.cons.inj h
  simp only [K0]
  rw [E4y b l (i+1) e,gdE d];simp
theorem eqc (l:List Cel):G1 l l=true:=by
 unfold G1
 rw [E4y l l 0 rfl,decide_eq_true rfl];rfl
theorem D0z (x was:List Cel) (from_ to_:Int) (pen:Sty) (a:(∀ c ∈ x,aR c.sty)∧aR pen):A6b x was from_ to_ pen=true:=by
 unfold A6b
 rw [D5v]
 simp only [C2,Bool.not_true,cond_false]
 by_cases h0:(F7 x from_ to_ pen).2.2.2=0
 ·rw [decide_eq_true h0,Bool.not_true,cond_false]
  by_cases hg:(((((!decide ((was.length:Int)=(x.length:Int)))||(!decide ((G5 was false)=0)))||(decide (from_=(x.length:Int))))||(decide ((was.getD ((from_).toNat) Cel.zero).wide=2)))||((decide (to_<(x.length:Int)))&&(decide ((was.getD ((to_).toNat) Cel.zero).wide=2))))=true
  ·rw [hg];rfl
  ·rw [eq_false_of_ne_true hg,cond_false]
   have f:Asks x was from_ to_ pen:=E1t rfl h0 (eq_false_of_ne_true hg)
   have j:=(D1i a f).1
   have k:(2:Int)≤(x.length:Int)∧(x.length:Int)≤80:=by omega
   rw [E9x _ k]
   simp only [decide_true,Bool.not_true,cond_false]
   obtain ⟨_,d,e,m,g,hR⟩:=E1j a f
   rw [hR]
   have b:(scr (b0 x.length) (U7 x.length d) (F7 x from_ to_ pen).2.1 e).cursor={Cur.zero with col:=(if ((x.length:Int) - 1)<(F7 x from_ to_ pen).2.2.1 then ((x.length:Int) - 1) else (F7 x from_ to_ pen).2.2.1),wrap:=(decide ((F7 x from_ to_ pen).2.2.1=(x.length:Int)))}:=by
    rw [m]
    show U7 x.length d=_
    by_cases q:d=x.length
    ·rw [decide_eq_true opx,if_pos opx];exact if_pos q
    ·rw [decide_eq_false opx,if_neg opx];exact if_neg q
   rw [decide_eq_true b,A1l]
   have h:(two (was.take from_.toNat++((x.drop from_.toNat).take (to_.toNat - from_.toNat)++was.drop to_.toNat)) (bl0 x.length)).getD 0 bS=⟨was.take from_.toNat++((x.drop from_.toNat).take (to_.toNat - from_.toNat)++was.drop to_.toNat),false⟩:=rfl
   have i:([(was.take ((from_).toNat)),((x.drop ((from_).toNat)).take (((to_).toNat) - ((from_).toNat))),(was.drop ((to_).toNat))]:List (List Cel)).flatten=was.take from_.toNat++((x.drop from_.toNat).take (to_.toNat - from_.toNat)++was.drop to_.toNat):=by simp
   rw [h,i,eqc]
   show (bif ((!decide ((0:Int)=0))||(!(decide ((F7 x from_ to_ pen).2.1=(F7 x from_ to_ pen).2.1))))||(!true) then false else (true&&G1 (bl0 x.length).l (bl0 x.length).l))=true
   rw [eqc];simp
 ·rw [decide_eq_false h0,Bool.not_false,cond_true,E5k h0];rfl
end Go.Proofs.YtfcdnnheppnbaaaGreatDoor
