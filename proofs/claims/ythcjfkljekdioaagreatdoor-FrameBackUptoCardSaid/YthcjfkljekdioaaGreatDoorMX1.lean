import Derived.Test.YthcjfkljekdioaaGreatDoorMB4
set_option linter.unusedVariables false
set_option linter.unusedSimpArgs false
namespace Go.Proofs.YthcjfkljekdioaaGreatDoor
open Go Go.Fen
theorem B5q {x:Cel} {l:List Cel} {n m:Nat} (h:l.take n=List.replicate n x) (hm:m≤n):l.take m=List.replicate m x:=by
 rw [← Nat.min_eq_left hm,← List.take_take,h,List.take_replicate]
theorem A7p (x:Cel) (N:Nat):∀ (fu:Nat) (l:List Cel) (n:Nat),l.length=N→1≤n→N - n<fu→l.take n=List.replicate (min n N) x→E9 fu l n=List.replicate N x
 | 0,l,n,hl,hn,hf,ht=>by omega
 | fu+1,l,n,hl,hn,hf,ht=>by
  simp only [E9]
  by_cases c:(n:Int)<(l.length:Int)
  ·rw [decide_eq_true c,cond_true]
   have hnN:n<N:=by omega
   rw [Nat.min_eq_left (by omega)] at ht
   have hlen:(l.take n++(l.take (min n (l.length - n))++l.drop (n+min n (l.length - n)))).length=N:=by
    simp only [List.length_append,List.length_take,List.length_drop];omega
   refine A7p x N fu _ _ hlen (by omega) (by omega) ?_
   have hm:=Nat.min_le_left n (l.length - n)
   have hm2:=Nat.min_le_right n (l.length - n)
   generalize min n (l.length - n)=m at hm hm2 ⊢
   rw [ht,B5q ht hm,Nat.min_eq_left (b:=N) (by omega),← List.append_assoc,List.replicate_append_replicate,List.take_append_of_le_length (by simp),List.take_of_length_le (by simp)]
  ·rw [decide_eq_false c,cond_false]
   rw [List.take_of_length_le (by omega),Nat.min_eq_right (by omega)] at ht;exact ht
theorem B9y (x:Cel) (c:Int) (hc:2≤c∧c≤80):H8 [x] c=List.replicate c.toNat x:=by
 unfold H8 G2
 rw [show ([x]:List Cel).length=1 from rfl,B8m 1 c rfl (by omega)]
 show E9 (_ - (min 1 (List.replicate ((IntKind.i64.wrap c).toNat) Cel.zero).length)+1) (List.take (List.replicate ((IntKind.i64.wrap c).toNat) Cel.zero).length [x]++List.drop 1 (List.replicate ((IntKind.i64.wrap c).toNat) Cel.zero)) (min 1 (List.replicate ((IntKind.i64.wrap c).toNat) Cel.zero).length)=_
 rw [wr6 (by omega),List.length_replicate,Nat.min_eq_left (by omega),List.take_of_length_le (by simp;omega)]
 refine A7p x c.toNat _ _ 1 (by simp;omega) (by omega) (by simp) ?_
 rw [Nat.min_eq_left (by omega)];rfl
theorem C1o:D6 Sty.zero=0:=by decide +kernel
theorem B6q (c:Int) (hc:2≤c∧c≤80):A7q c Sty.zero=(List.replicate c.toNat (G5 Sty.zero),false,0):=by
 unfold A7q
 rw [C1o,decide_eq_false (by omega),decide_eq_false (by omega)]
 simp only [Bool.or_self,decide_true,Bool.not_true,cond_false,G2];rw [B9y _ _ hc]
theorem A7c (w:Int) (hw:2≤w∧w≤80):∀ (tl l:List (Rwc Cel)) (t:Nat),l.length=t+tl.length→l.take t=List.replicate t ⟨List.replicate w.toNat (G5 Sty.zero),false⟩ →
  K6 w Sty.zero tl l t=List.replicate (t+tl.length) ⟨List.replicate w.toNat (G5 Sty.zero),false⟩
 | [],l,t,hl,ht=>by
  simp only [K6]
  rw [List.take_of_length_le (by simp at hl;omega)] at ht;exact ht
 | _::tl,l,t,hl,ht=>by
  simp only [K6,G2]
  rw [B6q w hw,A7c w hw tl _ (t+1) (by simp at hl ⊢;omega) ?_]
  ·simp [Nat.add_assoc,Nat.add_comm 1]
  ·have hlt:t<l.length:=by simp at hl;omega
   rw [List.take_add_one,List.take_set_of_le (Nat.le_refl _),ht,List.getElem?_set_self hlt,List.replicate_succ'];rfl
theorem A9f (c r:Int) (hc:2≤c∧c≤80) (hr:1≤r∧r≤40):Z3 c r Sty.zero=(List.replicate r.toNat ⟨List.replicate c.toNat (G5 Sty.zero),false⟩,0):=by
 unfold Z3
 rw [C1o,decide_eq_false (by omega),decide_eq_false (by omega),decide_eq_false (by omega),decide_eq_false (by omega)]
 simp only [Bool.or_self,decide_true,Bool.not_true,cond_false,G2]
 unfold X1
 rw [A7c c hc _ _ 0 (by simp) rfl]
 simp
theorem B2v (c:Int):∀ (fu:Nat) (t:List Bool) (k:Nat),(P5 c fu t k).2=0
 | 0,_,_=>rfl
 | fu+1,t,k=>by
  simp only [P5]
  cases decide ((k:Int)<c) with
  | true=>exact B2v c fu _ _
  | false=>rfl
theorem C4j (c:Int) (hc:2≤c∧c≤80):(P6 c).2=0:=by
 unfold P6
 rw [decide_eq_false (by omega),decide_eq_false (by omega)];exact B2v _ _ _ _
theorem A0d:∀ (l:List (Rwc Cel)) (t:Nat),L4 l t=l.map Rwc.l
 | [],t=>rfl
 | a::l,t=>by simp only [L4,List.map_cons,List.take_length];rw [A0d]
theorem B1k (s:ScrC):∀ (l f:List (List Cel)),K7 s l f=((⟨s.cols,(⟨s.cursor.row,s.cursor.col⟩:Plc),s.modes.visible,s.shape,s.title⟩:FrmC),f++l)
 | [],f=>by simp [K7]
 | a::l,f=>by simp only [K7];rw [B1k];simp
theorem C2h (s:ScrC) (m a:List (Rwc Cel)) (t:List Bool):S0 s m a t=((⟨s.cols,(⟨s.cursor.row,s.cursor.col⟩:Plc),s.modes.visible,s.shape,s.title⟩:FrmC),(if s.onAlt then a else m).map Rwc.l):=by
 unfold S0 V0 P2
 rw [B1k,A0d,A0d]
 cases s.onAlt<;>rfl
theorem B7c:A0s=true:=by decide +kernel
end Go.Proofs.YthcjfkljekdioaaGreatDoor
set_option linter.unusedVariables false
set_option linter.unusedSimpArgs false
namespace Go.Proofs.YthcjfkljekdioaaGreatDoor
open Go Go.Fen
theorem w64 {x:Int} (h:-1000000≤x∧x≤1000000):IntKind.i64.wrap x=x:=wr6 h
theorem A8q (c:Int):∀ (fu:Nat) (t:List Bool) (k:Nat),(c - (k:Int)).toNat<fu→(P5 c fu t k).1.length=t.length
 | 0,_,_,h=>by omega
 | fu+1,t,k,h=>by
  simp only [P5]
  by_cases q:(k:Int)<c
  ·rw [decide_eq_true q,cond_true,A8q c fu _ _ (by omega),List.length_set]
  ·rw [decide_eq_false q];rfl
theorem B6b (c:Int) (hc:2≤c∧c≤80):((P6 c).1.length:Int)=c:=by
 unfold P6
 rw [decide_eq_false (by omega),decide_eq_false (by omega)]
 show ((P5 c _ _ _).1.length:Int)=c
 rw [A8q _ _ _ _ (by omega),List.length_replicate];omega
theorem B2c (c r:Int) (hc:2≤c∧c≤80) (hr:1≤r∧r≤40):O4 c r=({ScrC.zero with cols:=c,rows:=r,modes:=P9,bottom:=r - 1},
  List.replicate r.toNat ⟨List.replicate c.toNat (G5 Sty.zero),false⟩,List.replicate r.toNat ⟨List.replicate c.toNat (G5 Sty.zero),false⟩,(P6 c).1,0):=by
 unfold O4 G2
 rw [A9f c r hc hr]
 simp only [decide_true,Bool.not_true,cond_false,C4j c hc]
 rw [w64 (by omega)]
theorem A7h:∀ (k t:Nat) (last:Cel),last.wide=0→P3 (List.replicate k (G5 Sty.zero)) t last=0
 | 0,t,last,h=>by simp [P3,h]
 | k+1,t,last,h=>by
  rw [List.replicate_succ]
  simp only [P3]
  rw [show Q6 (G5 Sty.zero)=0 by decide +kernel,h,show (G5 Sty.zero).wide=0 from rfl]
  exact A7h k (t+1) _ rfl
theorem B3d (c:Int) (hc:2≤c∧c≤80) (b:Bool):G4 (List.replicate c.toNat (G5 Sty.zero)) b=0:=by
 unfold G4
 rw [List.length_replicate,decide_eq_false (by omega),decide_eq_false (by omega)]
 exact A7h _ _ _ rfl
theorem B1e (g:List (Rwc Cel)):∀ (l:List (Rwc Cel)) (t:Nat),(∀ r ∈ l,G4 r.l r.b=0∧(r.l.length:Int)=U9 g)→O1 g l t=0
 | [],t,h=>rfl
 | a::l,t,h=>by
  simp only [O1]
  obtain ⟨h1,h2⟩:=h a (List.mem_cons_self ..)
  rw [h1,decide_eq_true h2]
  exact B1e g l (t+1) fun r hr=>h r (List.mem_cons_of_mem _ hr)
theorem A6m {s:ScrC} {m a:List (Rwc Cel)} {t:List Bool} {g:List (Rwc Cel)} (hr:(g.length:Int)=s.rows) (h1:1≤s.rows∧s.rows≤40) (h:∀ r ∈ g,G4 r.l r.b=0∧(r.l.length:Int)=s.cols):C8 s m a t g=true:=by
 have h0:0<g.length:=by omega
 have hg:((g.getD 0 zwc).l.length:Int)=s.cols:=by
  have:g.getD 0 zwc=g[0]:=by simp [List.getD_eq_getElem?_getD,h0]
  rw [this];exact (h _ (List.getElem_mem h0)).2
 unfold C8 M4
 rw [decide_eq_false (show ¬ (g.length:Int)<1 by omega),decide_eq_false (show ¬ 40<(g.length:Int) by omega),decide_eq_true hr,decide_eq_true hg]
 show (decide (O1 g g 0=0)&&true&&true)=true
 rw [B1e g g 0 fun r hr=>⟨(h r hr).1,(h r hr).2.trans (by unfold U9;exact hg.symm)⟩];rfl
theorem B5o {s:ScrC} {m a:List (Rwc Cel)} {t:List Bool} (h1:F3 s.rows s.cols s.top s.bottom s.modes.origin s.cursor=0) (h2:E4 s.rows s.cols s.top s.bottom s.modes.origin s.kept=0)
  (h3:E4 s.rows s.cols s.top s.bottom s.modes.origin s.keptAlt=0) (h4:C8 s m a t m=true) (h5:C8 s m a t a=true) (h6:2≤s.cols∧s.cols≤80) (h7:(t.length:Int)=s.cols)
  (h8:D6 s.style=0) (h9:I8 s.sets=0) (h10:U7 s.modes=0) (h11:0≤s.shape∧s.shape≤6) (h12:K1 0 0 Col.zero s.title=0) (h13:s.last=0):E6 s m a t=0:=by
 have hp:R5 s.cols=0:=by unfold R5;rw [decide_eq_false (by omega),decide_eq_false (by omega)];rfl
 unfold E6 J5 N6 G2
 simp only [h1,h2,h3,decide_true,Bool.not_true,cond_false]
 unfold I7
 simp only [h4,h5,hp,h7,decide_true,Bool.not_true,cond_false]
 unfold H5
 simp only [h8,h9,h10,decide_true,Bool.not_true,cond_false]
 unfold K4
 rw [decide_eq_false (show ¬ s.shape<0 by omega),decide_eq_false (show ¬ 6<s.shape by omega),h12,h13]
 rfl
theorem B4f {r c:Int} (hc:2≤c∧c≤80) (hr:1≤r∧r≤40):J6 r c 0 (r - 1) false=0:=by
 unfold J6
 rw [decide_eq_true (show (1:Int)≤r by omega),decide_eq_true (show r≤40 by omega),decide_eq_true hc.1,decide_eq_true hc.2,decide_eq_true (show r - 1<r by omega),decide_eq_false (show ¬ r - 1<0 by omega)]
 by_cases h:r=1
 ·subst h;rfl
 ·rw [decide_eq_true (show (0:Int)<r - 1 by omega)];rfl
theorem B5k {n a b:Int} (h:a≤n∧n≤b):Q4 n a b=n:=by
 unfold Q4
 rw [if_neg (show ¬ b<n by omega)]
 split<;>omega
theorem B7u {r c:Int} (hc:2≤c∧c≤80) (hr:1≤r∧r≤40) {u:Cur} (h1:0≤u.row∧u.row<r) (h2:0≤u.col∧u.col<c) (h3:u.wrap=false):F3 r c 0 (r - 1) false u=0:=by
 unfold F3 M1 L8
 rw [B4f hc hr,w64 (show -1000000≤r - 1∧r - 1≤1000000 by omega),w64 (show -1000000≤c - 1∧c - 1≤1000000 by omega),B5k (show 0≤u.row∧u.row≤r - 1 by omega),B5k (show 0≤u.col∧u.col≤c - 1 by omega),h3]
 simp
theorem A8a {r c:Int} (hc:2≤c∧c≤80) (hr:1≤r∧r≤40):E4 r c 0 (r - 1) false Sav.zero=0:=by
 unfold E4
 rw [B4f hc hr,B7u hc hr (u:=Sav.zero.cursor) ⟨by decide,show (0:Int)<r by omega⟩ ⟨by decide,show (0:Int)<c by omega⟩ rfl]
 simp [Sav.zero]
theorem B9f {r c:Int} (hc:2≤c∧c≤80) (hr:1≤r∧r≤40):E4 r c 0 (r - 1) false ⟨true,Cur.zero,Sty.zero,Sts.zero,false⟩=0:=by
 unfold E4
 rw [B4f hc hr,B7u hc hr (u:=Cur.zero) ⟨by decide,show (0:Int)<r by omega⟩ ⟨by decide,show (0:Int)<c by omega⟩ rfl,C1o,show I8 Sts.zero=0 by decide +kernel]
 rfl
theorem C5r:K1 0 0 Col.zero []=0:=by decide +kernel
structure FOk (f:FrmC) (rows:List (List Cel)):Prop where
 hc:2≤f.cols∧f.cols≤80
 hr:1≤(rows.length:Int)∧(rows.length:Int)≤40
 h1:0≤f.cursor.row∧f.cursor.row<(rows.length:Int)
 h2:0≤f.cursor.col∧f.cursor.col<f.cols
 sh:0≤f.shape∧f.shape≤6
 ti:K1 0 0 Col.zero f.title=0
 ro:∀ r ∈ rows,(r.length:Int)=f.cols∧G4 r false=0
theorem B9z {f:FrmC} {rows:List (List Cel)} (h:D5 f rows=0):FOk f rows:=by
 unfold D5 at h
 obtain ⟨h1,h2⟩:=Y9 _ _ _ _ h
 simp only [Bool.and_eq_true,decide_eq_true_eq] at h1
 obtain ⟨⟨⟨⟨⟨⟨⟨⟨⟨⟨a1,a2⟩,a3⟩,a4⟩,a5⟩,a6⟩,a7⟩,a8⟩,a9⟩,a10⟩,a11⟩:=h1
 exact ⟨⟨a1,a2⟩,⟨a3,a4⟩,⟨a5,a6⟩,⟨a7,a8⟩,⟨a9,a10⟩,a11,h2⟩
theorem A6l (f:FrmC):∀ (rows:List (List Cel)) (ok:Bool) (t:Nat),J3 f rows ok t=0∨J3 f rows ok t=330
 | [],ok,t=>by cases ok<;>simp [J3]
 | r::rows,ok,t=>by
  simp only [J3]
  generalize ((ok&&decide ((r.length:Int)=f.cols))&&decide (G4 r false=0))=b
  cases b with
  | false=>right;rfl
  | true=>exact A6l f rows true (t+1)
theorem B9j {f:FrmC} {rows:List (List Cel)} (h:D5 f rows≠0):D5 f rows=330:=(A6l f rows _ 0).resolve_left h
theorem C6o {c r:Int} (hc:2≤c∧c≤80) (hr:1≤r∧r≤40):A2m {ScrC.zero with cols:=c,rows:=r,modes:=P9,bottom:=r - 1} (List.replicate r.toNat ⟨List.replicate c.toNat (G5 Sty.zero),false⟩) (List.replicate r.toNat ⟨List.replicate c.toNat (G5 Sty.zero),false⟩) (P6 c).1 =
  ({ScrC.zero with cols:=c,rows:=r,onAlt:=true,modes:=P9,bottom:=r - 1,kept:=⟨true,Cur.zero,Sty.zero,Sts.zero,false⟩},List.replicate r.toNat ⟨List.replicate c.toNat (G5 Sty.zero),false⟩,List.replicate r.toNat ⟨List.replicate c.toNat (G5 Sty.zero),false⟩,(P6 c).1,0):=by
 have hG:∀ x ∈ List.replicate r.toNat (⟨List.replicate c.toNat (G5 Sty.zero),false⟩:Rwc Cel),G4 x.l x.b=0∧(x.l.length:Int)=c:=fun x hx=>by
  rw [List.eq_of_mem_replicate hx];exact ⟨B3d c hc _,by rw [List.length_replicate];omega⟩
 have hv:=B5o (s:={ScrC.zero with cols:=c,rows:=r,modes:=P9,bottom:=r - 1}) (m:=List.replicate r.toNat ⟨List.replicate c.toNat (G5 Sty.zero),false⟩) (a:=List.replicate r.toNat ⟨List.replicate c.toNat (G5 Sty.zero),false⟩) (t:=(P6 c).1)
  (B7u hc hr (u:=Cur.zero) ⟨by decide,show (0:Int)<r by omega⟩ ⟨by decide,show (0:Int)<c by omega⟩ rfl) (A8a hc hr) (A8a hc hr) (A6m (by simp only [List.length_replicate];omega) hr hG) (A6m (by simp only [List.length_replicate];omega) hr hG) hc (B6b c hc) C1o (show I8 Sts.zero=0 by decide +kernel) (show U7 P9=0 by decide +kernel) (show (0:Int)≤0∧(0:Int)≤6 by decide) C5r rfl
 unfold A2m A3r G2
 rw [hv,show O2 1049 1 Col.zero []=0 by decide +kernel]
 unfold V3 C6 O6 G2
 simp only [decide_true,Bool.not_true,cond_false,cond_true,ScrC.zero,show (true == false)=false from rfl]
 rw [A9f c r hc hr]
 rfl
theorem A9i (f:FrmC) (d:ScrC×List (Rwc Cel)×List (Rwc Cel)×List Bool×Int):∀ (l:List (List Cel)) (t:Nat) (a:List (Rwc Cel)),K9 f d l t a =
  ({d.1 with cursor:=⟨f.cursor.row,f.cursor.col,false⟩,modes:={d.1.modes with visible:=f.visible},shape:=f.shape,title:=f.title},d.2.1,a++l.map (fun x=>⟨x,false⟩),d.2.2.2.1,0)
 | [],t,a=>by simp [K9,Cur.zero]
 | x::l,t,a=>by simp only [K9];rw [A9i];simp
def A6p (f:FrmC) (rows:List (List Cel)):ScrC:={ScrC.zero with cols:=f.cols,rows:=rows.length,onAlt:=true,cursor:=⟨f.cursor.row,f.cursor.col,false⟩,modes:={P9 with visible:=f.visible},bottom:=(rows.length:Int) - 1,kept:=⟨true,Cur.zero,Sty.zero,Sts.zero,false⟩,shape:=f.shape,title:=f.title}
theorem C0g {f:FrmC} {rows:List (List Cel)} (h:FOk f rows) (h0:D5 f rows=0):P8 f rows=(A6p f rows,List.replicate (rows.length:Int).toNat ⟨List.replicate f.cols.toNat (G5 Sty.zero),false⟩,rows.map (fun x=>⟨x,false⟩),(P6 f.cols).1,0):=by
 unfold P8 G2
 rw [h0,B2c _ _ h.hc h.hr]
 simp only [decide_true,Bool.not_true,cond_false,cond_true]
 rw [C6o h.hc h.hr]
 simp only [decide_true,Bool.not_true,cond_false,cond_true]
 rw [A9i]
 simp [A6p]
theorem B5h {f:FrmC} {rows:List (List Cel)} (h:FOk f rows):E6 (A6p f rows) (List.replicate (rows.length:Int).toNat ⟨List.replicate f.cols.toNat (G5 Sty.zero),false⟩) (rows.map (fun x=>⟨x,false⟩)) (P6 f.cols).1=0:=by
 have hG:∀ x ∈ List.replicate (rows.length:Int).toNat (⟨List.replicate f.cols.toNat (G5 Sty.zero),false⟩:Rwc Cel),G4 x.l x.b=0∧(x.l.length:Int)=f.cols:=fun x hx=>by
  rw [List.eq_of_mem_replicate hx];exact ⟨B3d _ h.hc _,by rw [List.length_replicate];have:=h.hc;omega⟩
 refine B5o (s:=A6p f rows) (B7u h.hc h.hr h.h1 h.h2 rfl) (B9f h.hc h.hr) (A8a h.hc h.hr) (A6m (by simp only [List.length_replicate,A6p];omega) h.hr hG) (A6m (by simp [A6p]) h.hr ?_) h.hc (B6b _ h.hc) C1o (show I8 Sts.zero=0 by decide +kernel) (by unfold A6p;rfl) h.sh h.ti rfl
 intro r hr
 obtain ⟨x,hx,rfl⟩:=List.mem_map.1 hr
 exact ⟨(h.ro x hx).2,(h.ro x hx).1⟩
theorem C3j (b:List Cel):∀ (l:List Cel) (i:Nat),l=b.drop i→F2 b l i=true
 | [],i,h=>rfl
 | a::l,i,h=>by
  have hi:i<b.length:=by
   rcases Nat.lt_or_ge i b.length with h1 | h1
   ·exact h1
   ·rw [List.drop_of_length_le h1] at h;cases h
  rw [List.drop_eq_getElem_cons hi] at h
  obtain ⟨rfl,h2⟩:=List.cons.inj h
  simp only [F2]
  rw [C3j b l (i+1) h2]
  simp [List.getD_eq_getElem?_getD,hi]
theorem C0y (b:List (List Cel)):∀ (l:List (List Cel)) (i:Nat),l=b.drop i→C0 b l i=true
 | [],i,h=>rfl
 | a::l,i,h=>by
  have hi:i<b.length:=by
   rcases Nat.lt_or_ge i b.length with h1 | h1
   ·exact h1
   ·rw [List.drop_of_length_le h1] at h;cases h
  rw [List.drop_eq_getElem_cons hi] at h
  obtain ⟨rfl,h2⟩:=List.cons.inj h
  simp only [C0]
  rw [C0y b l (i+1) h2]
  unfold I2
  rw [show b.getD i []=b[i] by simp [List.getD_eq_getElem?_getD,hi],C3j b[i] b[i] 0 rfl];simp
theorem B9t (f:FrmC) (r:List (List Cel)):L5 f r f r=true:=by
 unfold L5 C4
 rw [C0y r r 0 rfl];simp
end Go.Proofs.YthcjfkljekdioaaGreatDoor
set_option linter.unusedVariables false
set_option linter.unusedSimpArgs false
namespace Go.Proofs.YthcjfkljekdioaaGreatDoor
open Go Go.Fen
theorem B2p (f:FrmC) (rows:List (List Cel)):W7 f rows=true:=by
 unfold W7 G2
 rw [B7c]
 by_cases h0:D5 f rows=0
 ·have h:=B9z h0
  have hs:S0 (A6p f rows) (List.replicate (rows.length:Int).toNat ⟨List.replicate f.cols.toNat (G5 Sty.zero),false⟩) (rows.map (fun x=>⟨x,false⟩)) (P6 f.cols).1=(f,rows):=by
   rw [C2h];simp [A6p,Function.comp_def]
  rw [C0g h h0]
  unfold A2t G2
  simp only [B5h h,hs,decide_true,Bool.not_true,cond_false,B9t,Bool.and_true,Bool.true_and]
  rfl
 ·have h3:=B9j h0
  unfold P8
  rw [h3];rfl
end Go.Proofs.YthcjfkljekdioaaGreatDoor
