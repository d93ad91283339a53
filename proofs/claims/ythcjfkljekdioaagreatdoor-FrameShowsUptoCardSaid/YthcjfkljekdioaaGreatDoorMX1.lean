import Derived.Test.YthcjfkljekdioaaGreatDoorMB4
set_option linter.unusedVariables false
set_option linter.unusedSimpArgs false
namespace Go.Proofs.YthcjfkljekdioaaGreatDoor
open Go Go.Fen
theorem C2j {x:Cel} {l:List Cel} {n m:Nat} (h:l.take n=List.replicate n x) (hm:m≤n):l.take m=List.replicate m x:=by
 rw [← Nat.min_eq_left hm,← List.take_take,h,List.take_replicate]
theorem B2j (x:Cel) (N:Nat):∀ (fu:Nat) (l:List Cel) (n:Nat),l.length=N→1≤n→N - n<fu→l.take n=List.replicate (min n N) x→F9 fu l n=List.replicate N x
 | 0,l,n,hl,hn,hf,ht=>by omega
 | fu+1,l,n,hl,hn,hf,ht=>by
  simp only [F9]
  by_cases c:(n:Int)<(l.length:Int)
  ·rw [decide_eq_true c,cond_true]
   have hnN:n<N:=by omega
   rw [Nat.min_eq_left (by omega)] at ht
   have hlen:(l.take n++(l.take (min n (l.length - n))++l.drop (n+min n (l.length - n)))).length=N:=by
    simp only [List.length_append,List.length_take,List.length_drop];omega
   refine B2j x N fu _ _ hlen (by omega) (by omega) ?_
   have hm:=Nat.min_le_left n (l.length - n)
   have hm2:=Nat.min_le_right n (l.length - n)
   generalize min n (l.length - n)=m at hm hm2 ⊢
   rw [ht,C2j ht hm,Nat.min_eq_left (b:=N) (by omega),← List.append_assoc,List.replicate_append_replicate,List.take_append_of_le_length (by simp),List.take_of_length_le (by simp)]
  ·rw [decide_eq_false c,cond_false]
   rw [List.take_of_length_le (by omega),Nat.min_eq_right (by omega)] at ht;exact ht
theorem C6q (x:Cel) (c:Int) (hc:2≤c∧c≤80):K1 [x] c=List.replicate c.toNat x:=by
 unfold K1 D5
 rw [show ([x]:List Cel).length=1 from rfl,C6e 1 c rfl (by omega)]
 show F9 (_ - (min 1 (List.replicate ((IntKind.i64.wrap c).toNat) Cel.zero).length)+1) (List.take (List.replicate ((IntKind.i64.wrap c).toNat) Cel.zero).length [x]++List.drop 1 (List.replicate ((IntKind.i64.wrap c).toNat) Cel.zero)) (min 1 (List.replicate ((IntKind.i64.wrap c).toNat) Cel.zero).length)=_
 rw [wr6 (by omega),List.length_replicate,Nat.min_eq_left (by omega),List.take_of_length_le (by simp;omega)]
 refine B2j x c.toNat _ _ 1 (by simp;omega) (by omega) (by simp) ?_
 rw [Nat.min_eq_left (by omega)];rfl
theorem D4d:E7 Sty.zero=0:=by decide +kernel
theorem C4x (c:Int) (hc:2≤c∧c≤80):B2p c Sty.zero=(List.replicate c.toNat (H3 Sty.zero),false,0):=by
 unfold B2p
 rw [D4d,decide_eq_false (by omega),decide_eq_false (by omega)]
 simp only [Bool.or_self,decide_true,Bool.not_true,cond_false,D5];rw [C6q _ _ hc]
theorem B2b (w:Int) (hw:2≤w∧w≤80):∀ (tl l:List (Rwc Cel)) (t:Nat),l.length=t+tl.length→l.take t=List.replicate t ⟨List.replicate w.toNat (H3 Sty.zero),false⟩ →
  N8 w Sty.zero tl l t=List.replicate (t+tl.length) ⟨List.replicate w.toNat (H3 Sty.zero),false⟩
 | [],l,t,hl,ht=>by
  simp only [N8]
  rw [List.take_of_length_le (by simp at hl;omega)] at ht;exact ht
 | _::tl,l,t,hl,ht=>by
  simp only [N8,D5]
  rw [C4x w hw,B2b w hw tl _ (t+1) (by simp at hl ⊢;omega) ?_]
  ·simp [Nat.add_assoc,Nat.add_comm 1]
  ·have hlt:t<l.length:=by simp at hl;omega
   rw [List.take_add_one,List.take_set_of_le (Nat.le_refl _),ht,List.getElem?_set_self hlt,List.replicate_succ'];rfl
theorem B4o (c r:Int) (hc:2≤c∧c≤80) (hr:1≤r∧r≤40):A2p c r Sty.zero=(List.replicate r.toNat ⟨List.replicate c.toNat (H3 Sty.zero),false⟩,0):=by
 unfold A2p
 rw [D4d,decide_eq_false (by omega),decide_eq_false (by omega),decide_eq_false (by omega),decide_eq_false (by omega)]
 simp only [Bool.or_self,decide_true,Bool.not_true,cond_false,D5]
 unfold A1q
 rw [B2b c hc _ _ 0 (by simp) rfl]
 simp
theorem B8v (c:Int):∀ (fu:Nat) (t:List Bool) (k:Nat),(X1 c fu t k).2=0
 | 0,_,_=>rfl
 | fu+1,t,k=>by
  simp only [X1]
  cases decide ((k:Int)<c) with
  | true=>exact B8v c fu _ _
  | false=>rfl
theorem D3r (c:Int) (hc:2≤c∧c≤80):(S2 c).2=0:=by
 unfold S2
 rw [decide_eq_false (by omega),decide_eq_false (by omega)];exact B8v _ _ _ _
theorem C5b:A4b=true:=by decide +kernel
end Go.Proofs.YthcjfkljekdioaaGreatDoor
set_option linter.unusedVariables false
set_option linter.unusedSimpArgs false
namespace Go.Proofs.YthcjfkljekdioaaGreatDoor
open Go Go.Fen
theorem w64 {x:Int} (h:-1000000≤x∧x≤1000000):IntKind.i64.wrap x=x:=wr6 h
theorem B3z (c:Int):∀ (fu:Nat) (t:List Bool) (k:Nat),(c - (k:Int)).toNat<fu→(X1 c fu t k).1.length=t.length
 | 0,_,_,h=>by omega
 | fu+1,t,k,h=>by
  simp only [X1]
  by_cases q:(k:Int)<c
  ·rw [decide_eq_true q,cond_true,B3z c fu _ _ (by omega),List.length_set]
  ·rw [decide_eq_false q];rfl
theorem C9h (c:Int) (hc:2≤c∧c≤80):((S2 c).1.length:Int)=c:=by
 unfold S2
 rw [decide_eq_false (by omega),decide_eq_false (by omega)]
 show ((X1 c _ _ _).1.length:Int)=c
 rw [B3z _ _ _ _ (by omega),List.length_replicate];omega
theorem B7t (c r:Int) (hc:2≤c∧c≤80) (hr:1≤r∧r≤40):U6 c r=({ScrC.zero with cols:=c,rows:=r,modes:=Q7,bottom:=r - 1},
  List.replicate r.toNat ⟨List.replicate c.toNat (H3 Sty.zero),false⟩,List.replicate r.toNat ⟨List.replicate c.toNat (H3 Sty.zero),false⟩,(S2 c).1,0):=by
 unfold U6 D5
 rw [B4o c r hc hr]
 simp only [decide_true,Bool.not_true,cond_false,D3r c hc]
 rw [w64 (by omega)]
theorem B1s:∀ (k t:Nat) (last:Cel),last.wide=0→O1 (List.replicate k (H3 Sty.zero)) t last=0
 | 0,t,last,h=>by simp [O1,h]
 | k+1,t,last,h=>by
  rw [List.replicate_succ]
  simp only [O1]
  rw [show O9 (H3 Sty.zero)=0 by decide +kernel,h,show (H3 Sty.zero).wide=0 from rfl]
  exact B1s k (t+1) _ rfl
theorem C7b (c:Int) (hc:2≤c∧c≤80) (b:Bool):H6 (List.replicate c.toNat (H3 Sty.zero)) b=0:=by
 unfold H6
 rw [List.length_replicate,decide_eq_false (by omega),decide_eq_false (by omega)]
 exact B1s _ _ _ rfl
theorem B5p (g:List (Rwc Cel)):∀ (l:List (Rwc Cel)) (t:Nat),(∀ r ∈ l,H6 r.l r.b=0∧(r.l.length:Int)=A1b g)→U1 g l t=0
 | [],t,h=>rfl
 | a::l,t,h=>by
  simp only [U1]
  obtain ⟨h1,h2⟩:=h a (List.mem_cons_self ..)
  rw [h1,decide_eq_true h2]
  exact B5p g l (t+1) fun r hr=>h r (List.mem_cons_of_mem _ hr)
theorem C1v {s:ScrC} {m a:List (Rwc Cel)} {t:List Bool} {g:List (Rwc Cel)} (hr:(g.length:Int)=s.rows) (h1:1≤s.rows∧s.rows≤40) (h:∀ r ∈ g,H6 r.l r.b=0∧(r.l.length:Int)=s.cols):D4 s m a t g=true:=by
 have h0:0<g.length:=by omega
 have hg:((g.getD 0 zwc).l.length:Int)=s.cols:=by
  have:g.getD 0 zwc=g[0]:=by simp [List.getD_eq_getElem?_getD,h0]
  rw [this];exact (h _ (List.getElem_mem h0)).2
 unfold D4 P4
 rw [decide_eq_false (show ¬ (g.length:Int)<1 by omega),decide_eq_false (show ¬ 40<(g.length:Int) by omega),decide_eq_true hr,decide_eq_true hg]
 show (decide (U1 g g 0=0)&&true&&true)=true
 rw [B5p g g 0 fun r hr=>⟨(h r hr).1,(h r hr).2.trans (by unfold A1b;exact hg.symm)⟩];rfl
theorem C7q {s:ScrC} {m a:List (Rwc Cel)} {t:List Bool} (h1:G9 s.rows s.cols s.top s.bottom s.modes.origin s.cursor=0) (h2:G1 s.rows s.cols s.top s.bottom s.modes.origin s.kept=0)
  (h3:G1 s.rows s.cols s.top s.bottom s.modes.origin s.keptAlt=0) (h4:D4 s m a t m=true) (h5:D4 s m a t a=true) (h6:2≤s.cols∧s.cols≤80) (h7:(t.length:Int)=s.cols)
  (h8:E7 s.style=0) (h9:M1 s.sets=0) (h10:A0o s.modes=0) (h11:0≤s.shape∧s.shape≤6) (h12:K4 0 0 Col.zero s.title=0) (h13:s.last=0):I7 s m a t=0:=by
 have hp:Y9 s.cols=0:=by unfold Y9;rw [decide_eq_false (by omega),decide_eq_false (by omega)];rfl
 unfold I7 L6 R9 D5
 simp only [h1,h2,h3,decide_true,Bool.not_true,cond_false]
 unfold K7
 simp only [h4,h5,hp,h7,decide_true,Bool.not_true,cond_false]
 unfold J4
 simp only [h8,h9,h10,decide_true,Bool.not_true,cond_false]
 unfold M9
 rw [decide_eq_false (show ¬ s.shape<0 by omega),decide_eq_false (show ¬ 6<s.shape by omega),h12,h13]
 rfl
theorem C6c {r c:Int} (hc:2≤c∧c≤80) (hr:1≤r∧r≤40):L7 r c 0 (r - 1) false=0:=by
 unfold L7
 rw [decide_eq_true (show (1:Int)≤r by omega),decide_eq_true (show r≤40 by omega),decide_eq_true hc.1,decide_eq_true hc.2,decide_eq_true (show r - 1<r by omega),decide_eq_false (show ¬ r - 1<0 by omega)]
 by_cases h:r=1
 ·subst h;rfl
 ·rw [decide_eq_true (show (0:Int)<r - 1 by omega)];rfl
theorem C2k {n a b:Int} (h:a≤n∧n≤b):W5 n a b=n:=by
 unfold W5
 rw [if_neg (show ¬ b<n by omega)]
 split<;>omega
theorem D1z {r c:Int} (hc:2≤c∧c≤80) (hr:1≤r∧r≤40) {u:Cur} (h1:0≤u.row∧u.row<r) (h2:0≤u.col∧u.col<c) (h3:u.wrap=false):G9 r c 0 (r - 1) false u=0:=by
 unfold G9 O4 O6
 rw [C6c hc hr,w64 (show -1000000≤r - 1∧r - 1≤1000000 by omega),w64 (show -1000000≤c - 1∧c - 1≤1000000 by omega),C2k (show 0≤u.row∧u.row≤r - 1 by omega),C2k (show 0≤u.col∧u.col≤c - 1 by omega),h3]
 simp
theorem B8w {r c:Int} (hc:2≤c∧c≤80) (hr:1≤r∧r≤40):G1 r c 0 (r - 1) false Sav.zero=0:=by
 unfold G1
 rw [C6c hc hr,D1z hc hr (u:=Sav.zero.cursor) ⟨by decide,show (0:Int)<r by omega⟩ ⟨by decide,show (0:Int)<c by omega⟩ rfl]
 simp [Sav.zero]
theorem D3e:K4 0 0 Col.zero []=0:=by decide +kernel
structure FOk (f:FrmC) (rows:List (List Cel)):Prop where
 hc:2≤f.cols∧f.cols≤80
 hr:1≤(rows.length:Int)∧(rows.length:Int)≤40
 h1:0≤f.cursor.row∧f.cursor.row<(rows.length:Int)
 h2:0≤f.cursor.col∧f.cursor.col<f.cols
 sh:0≤f.shape∧f.shape≤6
 ti:K4 0 0 Col.zero f.title=0
 ro:∀ r ∈ rows,(r.length:Int)=f.cols∧H6 r false=0
theorem C1z {f:FrmC} {rows:List (List Cel)} (h:F3 f rows=0):FOk f rows:=by
 unfold F3 at h
 obtain ⟨h1,h2⟩:=A0b _ _ _ _ h
 simp only [Bool.and_eq_true,decide_eq_true_eq] at h1
 obtain ⟨⟨⟨⟨⟨⟨⟨⟨⟨⟨a1,a2⟩,a3⟩,a4⟩,a5⟩,a6⟩,a7⟩,a8⟩,a9⟩,a10⟩,a11⟩:=h1
 exact ⟨⟨a1,a2⟩,⟨a3,a4⟩,⟨a5,a6⟩,⟨a7,a8⟩,⟨a9,a10⟩,a11,h2⟩
theorem B1w (f:FrmC):∀ (rows:List (List Cel)) (ok:Bool) (t:Nat),J5 f rows ok t=0∨J5 f rows ok t=330
 | [],ok,t=>by cases ok<;>simp [J5]
 | r::rows,ok,t=>by
  simp only [J5]
  generalize ((ok&&decide ((r.length:Int)=f.cols))&&decide (H6 r false=0))=b
  cases b with
  | false=>right;rfl
  | true=>exact B1w f rows true (t+1)
theorem C6r {f:FrmC} {rows:List (List Cel)} (h:F3 f rows≠0):F3 f rows=330:=(B1w f rows _ 0).resolve_left h
theorem D4l {c r:Int} (hc:2≤c∧c≤80) (hr:1≤r∧r≤40):A6q {ScrC.zero with cols:=c,rows:=r,modes:=Q7,bottom:=r - 1} (List.replicate r.toNat ⟨List.replicate c.toNat (H3 Sty.zero),false⟩) (List.replicate r.toNat ⟨List.replicate c.toNat (H3 Sty.zero),false⟩) (S2 c).1 =
  ({ScrC.zero with cols:=c,rows:=r,onAlt:=true,modes:=Q7,bottom:=r - 1,kept:=⟨true,Cur.zero,Sty.zero,Sts.zero,false⟩},List.replicate r.toNat ⟨List.replicate c.toNat (H3 Sty.zero),false⟩,List.replicate r.toNat ⟨List.replicate c.toNat (H3 Sty.zero),false⟩,(S2 c).1,0):=by
 have hG:∀ x ∈ List.replicate r.toNat (⟨List.replicate c.toNat (H3 Sty.zero),false⟩:Rwc Cel),H6 x.l x.b=0∧(x.l.length:Int)=c:=fun x hx=>by
  rw [List.eq_of_mem_replicate hx];exact ⟨C7b c hc _,by rw [List.length_replicate];omega⟩
 have hv:=C7q (s:={ScrC.zero with cols:=c,rows:=r,modes:=Q7,bottom:=r - 1}) (m:=List.replicate r.toNat ⟨List.replicate c.toNat (H3 Sty.zero),false⟩) (a:=List.replicate r.toNat ⟨List.replicate c.toNat (H3 Sty.zero),false⟩) (t:=(S2 c).1)
  (D1z hc hr (u:=Cur.zero) ⟨by decide,show (0:Int)<r by omega⟩ ⟨by decide,show (0:Int)<c by omega⟩ rfl) (B8w hc hr) (B8w hc hr) (C1v (by simp only [List.length_replicate];omega) hr hG) (C1v (by simp only [List.length_replicate];omega) hr hG) hc (C9h c hc) D4d (show M1 Sts.zero=0 by decide +kernel) (show A0o Q7=0 by decide +kernel) (show (0:Int)≤0∧(0:Int)≤6 by decide) D3e rfl
 unfold A6q A7l D5
 rw [hv,show S9 1049 1 Col.zero []=0 by decide +kernel]
 unfold A0v C9 V4 D5
 simp only [decide_true,Bool.not_true,cond_false,cond_true,ScrC.zero,show (true == false)=false from rfl]
 rw [B4o c r hc hr]
 rfl
theorem B4b (f:FrmC) (d:ScrC×List (Rwc Cel)×List (Rwc Cel)×List Bool×Int):∀ (l:List (List Cel)) (t:Nat) (a:List (Rwc Cel)),N9 f d l t a =
  ({d.1 with cursor:=⟨f.cursor.row,f.cursor.col,false⟩,modes:={d.1.modes with visible:=f.visible},shape:=f.shape,title:=f.title},d.2.1,a++l.map (fun x=>⟨x,false⟩),d.2.2.2.1,0)
 | [],t,a=>by simp [N9,Cur.zero]
 | x::l,t,a=>by simp only [N9];rw [B4b];simp
def C5f (f:FrmC) (rows:List (List Cel)):ScrC:={ScrC.zero with cols:=f.cols,rows:=rows.length,onAlt:=true,cursor:=⟨f.cursor.row,f.cursor.col,false⟩,modes:={Q7 with visible:=f.visible},bottom:=(rows.length:Int) - 1,kept:=⟨true,Cur.zero,Sty.zero,Sts.zero,false⟩,shape:=f.shape,title:=f.title}
theorem D0b {f:FrmC} {rows:List (List Cel)} (h:FOk f rows) (h0:F3 f rows=0):X2 f rows=(C5f f rows,List.replicate (rows.length:Int).toNat ⟨List.replicate f.cols.toNat (H3 Sty.zero),false⟩,rows.map (fun x=>⟨x,false⟩),(S2 f.cols).1,0):=by
 unfold X2 D5
 rw [h0,B7t _ _ h.hc h.hr]
 simp only [decide_true,Bool.not_true,cond_false,cond_true]
 rw [D4l h.hc h.hr]
 simp only [decide_true,Bool.not_true,cond_false,cond_true]
 rw [B4b]
 simp [C5f]
end Go.Proofs.YthcjfkljekdioaaGreatDoor
set_option linter.unusedVariables false
set_option linter.unusedSimpArgs false
namespace Go.Proofs.YthcjfkljekdioaaGreatDoor
open Go Go.Fen
theorem C1k {α:Type} {l tl:List α} {x d:α} {k:Nat} (h:l.drop k=x::tl):k<l.length∧l.getD k d=x∧l.drop (k+1)=tl:=by
 have hk:k<l.length:=by
  rcases Nat.lt_or_ge k l.length with h1 | h1
  ·exact h1
  ·rw [List.drop_of_length_le h1] at h;cases h
 rw [List.drop_eq_getElem_cons hk] at h
 obtain ⟨h1,h2⟩:=List.cons.inj h
 exact ⟨hk,by simp [List.getD_eq_getElem?_getD,hk,h1],h2⟩
end Go.Proofs.YthcjfkljekdioaaGreatDoor
