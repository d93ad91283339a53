import Derived.Test.YtkdgfkfbljdgmaaGreatDoorMB2
import Derived.Test.YtkdgfkfbljdgmaaGreatDoorMB4
set_option linter.unusedVariables false
set_option linter.unusedSimpArgs false
namespace Go.Proofs.YtkdgfkfbljdgmaaGreatDoor
open Go Go.Fen
theorem C2u {x:Cel} {l:List Cel} {n m:Nat} (h:l.take n=List.replicate n x) (a:m≤n):l.take m=List.replicate m x:=by
 rw [← Nat.min_eq_left a,← List.take_take,h,List.take_replicate]
theorem B2j (x:Cel) (N:Nat):∀ (d:Nat) (l:List Cel) (n:Nat),l.length=N→1≤n→N - n<d→l.take n=List.replicate (min n N) x→F4 d l n=List.replicate N x
 | 0,l,n,hl,hn,hf,ht=>by omega
 | d+1,l,n,hl,hn,hf,ht=>by
  simp only [F4]
  by_cases c:(n:Int)<(l.length:Int)
  ·rw [decide_eq_true c,cond_true]
   have g:n<N:=by omega
   rw [Nat.min_eq_left opx] at ht
   have a:(l.take n++(l.take (min n (l.length - n))++l.drop (n+min n (l.length - n)))).length=N:=by
    simp only [List.length_append,List.length_take,List.length_drop];omega
   refine B2j x N d _ _ a opx opx ?_
   have f:=Nat.min_le_left n (l.length - n)
   have e:=Nat.min_le_right n (l.length - n)
   generalize min n (l.length - n)=m at f e ⊢
   rw [ht,C2u ht f,Nat.min_eq_left (b:=N) opx,← List.append_assoc,List.replicate_append_replicate,List.take_append_of_le_length oom,List.take_of_length_le oom]
  ·rw [decide_eq_false c,cond_false]
   rw [List.take_of_length_le opx,Nat.min_eq_right opx] at ht;exact ht
theorem C6q (x:Cel) (c:Int) (a:2≤c∧c≤80):I8 [x] c=List.replicate c.toNat x:=by
 unfold I8 E8
 rw [show ([x]:List Cel).length=1 from rfl,C4z 1 c rfl opx]
 show F4 (_ - (min 1 (List.replicate ((IntKind.i64.wrap c).toNat) Cel.zero).length)+1) (List.take (List.replicate ((IntKind.i64.wrap c).toNat) Cel.zero).length [x]++List.drop 1 (List.replicate ((IntKind.i64.wrap c).toNat) Cel.zero)) (min 1 (List.replicate ((IntKind.i64.wrap c).toNat) Cel.zero).length)=_
 rw [wr6 opx,List.length_replicate,Nat.min_eq_left opx,List.take_of_length_le obq]
 refine B2j x c.toNat _ _ 1 obq opx oom ?_
 rw [Nat.min_eq_left opx];rfl
theorem C3s:H0 Sty.zero=0:=by decide +kernel
theorem C3p (c:Int) (a:2≤c∧c≤80):B2r c Sty.zero=(List.replicate c.toNat (G4 Sty.zero),false,0):=by
 unfold B2r
 rw [C3s,decide_eq_false opx,decide_eq_false opx]
 simp only [Bool.or_self,decide_true,Bool.not_true,cond_false,E8];rw [C6q _ _ a]
theorem A7y (w:Int) (c:2≤w∧w≤80):∀ (a l:List (Rwc Cel)) (t:Nat),l.length=t+a.length→l.take t=List.replicate t ⟨List.replicate w.toNat (G4 Sty.zero),false⟩ →
  K6 w Sty.zero a l t=List.replicate (t+a.length) ⟨List.replicate w.toNat (G4 Sty.zero),false⟩
 | [],l,t,hl,ht=>by
  simp only [K6]
  rw [List.take_of_length_le (by simp at hl;omega)] at ht;exact ht
 | _::a,l,t,hl,ht=>by
  simp only [K6,E8]
  rw [C3p w c,A7y w c a _ (t+1) (by simp at hl ⊢;omega) ?_]
  ·simp [Nat.add_assoc,Nat.add_comm 1]
  ·have b:t<l.length:=by simp at hl;omega
   rw [List.take_add_one,List.take_set_of_le (Nat.le_refl _),ht,List.getElem?_set_self b,List.replicate_succ'];rfl
theorem B4m (c r:Int) (a:2≤c∧c≤80) (hr:1≤r∧r≤40):A1y c r Sty.zero=(List.replicate r.toNat ⟨List.replicate c.toNat (G4 Sty.zero),false⟩,0):=by
 unfold A1y
 rw [C3s,decide_eq_false opx,decide_eq_false opx,decide_eq_false opx,decide_eq_false opx]
 simp only [Bool.or_self,decide_true,Bool.not_true,cond_false,E8]
 unfold L7
 rw [A7y c a _ _ 0 oom rfl]
 simp
theorem B9c (c:Int):∀ (a:Nat) (t:List Bool) (k:Nat),(V3 c a t k).2=0
 | 0,_,_=>rfl
 | a+1,t,k=>by
  simp only [V3]
  cases decide ((k:Int)<c) with
  | true=>exact B9c c a _ _
  | false=>rfl
theorem D1g (c:Int) (a:2≤c∧c≤80):(Q5 c).2=0:=by
 unfold Q5
 rw [decide_eq_false opx,decide_eq_false opx];exact B9c _ _ _ _
theorem w64 {x:Int} (h:-1000000≤x∧x≤1000000):IntKind.i64.wrap x=x:=wr6 h
theorem B4g (c:Int):∀ (a:Nat) (t:List Bool) (k:Nat),(c - (k:Int)).toNat<a→(V3 c a t k).1.length=t.length
 | 0,_,_,h=>by omega
 | a+1,t,k,h=>by
  simp only [V3]
  by_cases q:(k:Int)<c
  ·rw [decide_eq_true q,cond_true,B4g c a _ _ opx,List.length_set]
  ·rw [decide_eq_false q];rfl
theorem C1i (c:Int) (a:2≤c∧c≤80):((Q5 c).1.length:Int)=c:=by
 unfold Q5
 rw [decide_eq_false opx,decide_eq_false opx]
 show ((V3 c _ _ _).1.length:Int)=c
 rw [B4g _ _ _ _ opx,List.length_replicate];omega
theorem B7q (c r:Int) (a:2≤c∧c≤80) (hr:1≤r∧r≤40):N5 c r=({ScrC.zero with cols:=c,rows:=r,modes:=W7,bottom:=r - 1},
  List.replicate r.toNat ⟨List.replicate c.toNat (G4 Sty.zero),false⟩,List.replicate r.toNat ⟨List.replicate c.toNat (G4 Sty.zero),false⟩,(Q5 c).1,0):=by
 unfold N5 E8
 rw [B4m c r a hr]
 simp only [decide_true,Bool.not_true,cond_false,D1g c a]
 rw [w64 opx]
theorem B1x:∀ (k t:Nat) (a:Cel),a.wide=0→U5 (List.replicate k (G4 Sty.zero)) t a=0
 | 0,t,a,h=>by simp [U5,h]
 | k+1,t,a,h=>by
  rw [List.replicate_succ]
  simp only [U5]
  rw [show A3d (G4 Sty.zero)=0 by decide +kernel,h,show (G4 Sty.zero).wide=0 from rfl]
  exact B1x k (t+1) _ rfl
theorem B2z (c:Int) (a:2≤c∧c≤80) (b:Bool):K8 (List.replicate c.toNat (G4 Sty.zero)) b=0:=by
 unfold K8
 rw [List.length_replicate,decide_eq_false opx,decide_eq_false opx]
 exact B1x _ _ _ rfl
theorem B1b (g:List (Rwc Cel)):∀ (l:List (Rwc Cel)) (t:Nat),(∀ r ∈ l,K8 r.l r.b=0∧(r.l.length:Int)=M5 g)→P6 g l t=0
 | [],t,h=>rfl
 | a::l,t,h=>by
  simp only [P6]
  obtain ⟨d,c⟩:=h a (List.mem_cons_self ..)
  rw [d,decide_eq_true c]
  exact B1b g l (t+1) fun r hr=>h r (List.mem_cons_of_mem _ hr)
theorem B2d {s:ScrC} {m a:List (Rwc Cel)} {t:List Bool} {g:List (Rwc Cel)} (hr:(g.length:Int)=s.rows) (e:1≤s.rows∧s.rows≤40) (h:∀ r ∈ g,K8 r.l r.b=0∧(r.l.length:Int)=s.cols):G5 s m a t g=true:=by
 have c:0<g.length:=by omega
 have d:((g.getD 0 zwc).l.length:Int)=s.cols:=by
  have:g.getD 0 zwc=g[0]:=by simp [List.getD_eq_getElem?_getD,c]
  rw [this];exact (h _ (List.getElem_mem c)).2
 unfold G5 K9
 rw [decide_eq_false (show ¬ (g.length:Int)<1 by omega),decide_eq_false (show ¬ 40<(g.length:Int) by omega),decide_eq_true hr,decide_eq_true d]
 show (decide (P6 g g 0=0)&&true&&true)=true
 rw [B1b g g 0 fun r hr=>⟨(h r hr).1,(h r hr).2.trans (by unfold M5;exact d.symm)⟩];rfl
theorem C1m {s:ScrC} {m a:List (Rwc Cel)} {t:List Bool} (h:N1 s.rows s.cols s.top s.bottom s.modes.origin s.cursor=0) (e:G9 s.rows s.cols s.top s.bottom s.modes.origin s.kept=0)
  (g:G9 s.rows s.cols s.top s.bottom s.modes.origin s.keptAlt=0) (o:G5 s m a t m=true) (i:G5 s m a t a=true) (p:2≤s.cols∧s.cols≤80) (k:(t.length:Int)=s.cols)
  (n:H0 s.style=0) (f:Q2 s.sets=0) (c:A2w s.modes=0) (j:0≤s.shape∧s.shape≤6) (b:R0 0 0 Col.zero s.title=0) (d:s.last=0):M3 s m a t=0:=by
 have l:A0j s.cols=0:=by unfold A0j;rw [decide_eq_false opx,decide_eq_false opx];rfl
 unfold M3 W3 Q6 E8
 simp only [h,e,g,decide_true,Bool.not_true,cond_false]
 unfold M4
 simp only [o,i,l,k,decide_true,Bool.not_true,cond_false]
 unfold K1
 simp only [n,f,c,decide_true,Bool.not_true,cond_false]
 unfold M6
 rw [decide_eq_false (show ¬ s.shape<0 by omega),decide_eq_false (show ¬ 6<s.shape by omega),b,d]
 rfl
theorem B9z {r c:Int} (a:2≤c∧c≤80) (hr:1≤r∧r≤40):M7 r c 0 (r - 1) false=0:=by
 unfold M7
 rw [decide_eq_true (show (1:Int)≤r by omega),decide_eq_true (show r≤40 by omega),decide_eq_true a.1,decide_eq_true a.2,decide_eq_true (show r - 1<r by omega),decide_eq_false (show ¬ r - 1<0 by omega)]
 by_cases h:r=1
 ·subst h;rfl
 ·rw [decide_eq_true (show (0:Int)<r - 1 by omega)];rfl
theorem A9i {n a b:Int} (h:a≤n∧n≤b):G6 n a b=n:=by
 unfold G6
 rw [if_neg (show ¬ b<n by omega)]
 split<;>omega
theorem C5i {r c:Int} (b:2≤c∧c≤80) (hr:1≤r∧r≤40) {u:Cur} (e:0≤u.row∧u.row<r) (d:0≤u.col∧u.col<c) (a:u.wrap=false):N1 r c 0 (r - 1) false u=0:=by
 unfold N1 A0q W8
 rw [B9z b hr,w64 (show -1000000≤r - 1∧r - 1≤1000000 by omega),w64 (show -1000000≤c - 1∧c - 1≤1000000 by omega),A9i (show 0≤u.row∧u.row≤r - 1 by omega),A9i (show 0≤u.col∧u.col≤c - 1 by omega),a]
 simp
theorem B3h {r c:Int} (a:2≤c∧c≤80) (hr:1≤r∧r≤40):G9 r c 0 (r - 1) false Sav.zero=0:=by
 unfold G9
 rw [B9z a hr,C5i a hr (u:=Sav.zero.cursor) ⟨by decide,show (0:Int)<r by omega⟩ ⟨by decide,show (0:Int)<c by omega⟩ rfl]
 simp [Sav.zero]
theorem C5v {r c:Int} (a:2≤c∧c≤80) (hr:1≤r∧r≤40):G9 r c 0 (r - 1) false ⟨true,Cur.zero,Sty.zero,Sts.zero,false⟩=0:=by
 unfold G9
 rw [B9z a hr,C5i a hr (u:=Cur.zero) ⟨by decide,show (0:Int)<r by omega⟩ ⟨by decide,show (0:Int)<c by omega⟩ rfl,C3s,show Q2 Sts.zero=0 by decide +kernel]
 rfl
theorem D0b:R0 0 0 Col.zero []=0:=by decide +kernel
structure FOk (f:FrmC) (rows:List (List Cel)):Prop where
 hc:2≤f.cols∧f.cols≤80
 hr:1≤(rows.length:Int)∧(rows.length:Int)≤40
 h1:0≤f.cursor.row∧f.cursor.row<(rows.length:Int)
 h2:0≤f.cursor.col∧f.cursor.col<f.cols
 sh:0≤f.shape∧f.shape≤6
 ti:R0 0 0 Col.zero f.title=0
 ro:∀ r ∈ rows,(r.length:Int)=f.cols∧K8 r false=0
theorem C7x {f:FrmC} {rows:List (List Cel)} (h:F3 f rows=0):FOk f rows:=by
 unfold F3 at h
 obtain ⟨c,j⟩:=A2a _ _ _ _ h
 simp only [Bool.and_eq_true,decide_eq_true_eq] at c
 obtain ⟨⟨⟨⟨⟨⟨⟨⟨⟨⟨i,g⟩,n⟩,e⟩,d⟩,k⟩,o⟩,l⟩,m⟩,b⟩,a⟩:=c
 exact ⟨⟨i,g⟩,⟨n,e⟩,⟨d,k⟩,⟨o,l⟩,⟨m,b⟩,a,j⟩
theorem B2e (f:FrmC):∀ (a:List (List Cel)) (c:Bool) (t:Nat),I5 f a c t=0∨I5 f a c t=330
 | [],c,t=>by cases c<;>simp [I5]
 | r::a,c,t=>by
  simp only [I5]
  generalize ((c&&decide ((r.length:Int)=f.cols))&&decide (K8 r false=0))=b
  cases b with
  | false=>right;rfl
  | true=>exact B2e f a true (t+1)
theorem C6a {f:FrmC} {a:List (List Cel)} (h:F3 f a≠0):F3 f a=330:=(B2e f a _ 0).resolve_left h
theorem D2v {c r:Int} (d:2≤c∧c≤80) (hr:1≤r∧r≤40):A4q {ScrC.zero with cols:=c,rows:=r,modes:=W7,bottom:=r - 1} (List.replicate r.toNat ⟨List.replicate c.toNat (G4 Sty.zero),false⟩) (List.replicate r.toNat ⟨List.replicate c.toNat (G4 Sty.zero),false⟩) (Q5 c).1 =
  ({ScrC.zero with cols:=c,rows:=r,onAlt:=true,modes:=W7,bottom:=r - 1,kept:=⟨true,Cur.zero,Sty.zero,Sts.zero,false⟩},List.replicate r.toNat ⟨List.replicate c.toNat (G4 Sty.zero),false⟩,List.replicate r.toNat ⟨List.replicate c.toNat (G4 Sty.zero),false⟩,(Q5 c).1,0):=by
 have e:∀ x ∈ List.replicate r.toNat (⟨List.replicate c.toNat (G4 Sty.zero),false⟩:Rwc Cel),K8 x.l x.b=0∧(x.l.length:Int)=c:=fun x f=>by
  rw [List.eq_of_mem_replicate f];exact ⟨B2z c d _,by rw [List.length_replicate];omega⟩
 have g:=C1m (s:={ScrC.zero with cols:=c,rows:=r,modes:=W7,bottom:=r - 1}) (m:=List.replicate r.toNat ⟨List.replicate c.toNat (G4 Sty.zero),false⟩) (a:=List.replicate r.toNat ⟨List.replicate c.toNat (G4 Sty.zero),false⟩) (t:=(Q5 c).1)
  (C5i d hr (u:=Cur.zero) ⟨by decide,show (0:Int)<r by omega⟩ ⟨by decide,show (0:Int)<c by omega⟩ rfl) (B3h d hr) (B3h d hr) (B2d (by simp only [List.length_replicate];omega) hr e) (B2d (by simp only [List.length_replicate];omega) hr e) d (C1i c d) C3s (show Q2 Sts.zero=0 by decide +kernel) (show A2w W7=0 by decide +kernel) (show (0:Int)≤0∧(0:Int)≤6 by decide) D0b rfl
 unfold A4q A1l E8
 rw [g,show V8 1049 1 Col.zero []=0 by decide +kernel]
 rw [show X1 1049 1 Col.zero []=true by decide]
 simp only [decide_true,Bool.not_true,cond_false]
 unfold Y5 R6 H7 U0 E8
 simp only [decide_true,Bool.not_true,cond_false,cond_true,ScrC.zero,show (true == false)=false from rfl]
 rw [B4m c r d hr]
 rfl
theorem B4o (f:FrmC) (d:ScrC×List (Rwc Cel)×List (Rwc Cel)×List Bool×Int):∀ (l:List (List Cel)) (t:Nat) (a:List (Rwc Cel)),K3 f d l t a =
  ({d.1 with cursor:=⟨f.cursor.row,f.cursor.col,false⟩,modes:={d.1.modes with visible:=f.visible},shape:=f.shape,title:=f.title},d.2.1,a++l.map (fun x=>⟨x,false⟩),d.2.2.2.1,0)
 | [],t,a=>by simp [K3,Cur.zero]
 | x::l,t,a=>by simp only [K3];rw [B4o];simp
def X8 (f:FrmC) (rows:List (List Cel)):ScrC:={ScrC.zero with cols:=f.cols,rows:=rows.length,onAlt:=true,cursor:=⟨f.cursor.row,f.cursor.col,false⟩,modes:={W7 with visible:=f.visible},bottom:=(rows.length:Int) - 1,kept:=⟨true,Cur.zero,Sty.zero,Sts.zero,false⟩,shape:=f.shape,title:=f.title}
theorem C2j {f:FrmC} {a:List (List Cel)} (h:FOk f a) (b:F3 f a=0):R3 f a=(X8 f a,List.replicate (a.length:Int).toNat ⟨List.replicate f.cols.toNat (G4 Sty.zero),false⟩,a.map (fun x=>⟨x,false⟩),(Q5 f.cols).1,0):=by
 unfold R3 E8
 rw [b,B7q _ _ h.hc h.hr]
 simp only [decide_true,Bool.not_true,cond_false,cond_true]
 rw [D2v h.hc h.hr]
 simp only [decide_true,Bool.not_true,cond_false,cond_true]
 rw [B4o]
 simp [X8]
theorem C2o {f:FrmC} {a:List (List Cel)} (h:FOk f a):M3 (X8 f a) (List.replicate (a.length:Int).toNat ⟨List.replicate f.cols.toNat (G4 Sty.zero),false⟩) (a.map (fun x=>⟨x,false⟩)) (Q5 f.cols).1=0:=by
 have d:∀ x ∈ List.replicate (a.length:Int).toNat (⟨List.replicate f.cols.toNat (G4 Sty.zero),false⟩:Rwc Cel),K8 x.l x.b=0∧(x.l.length:Int)=f.cols:=fun x c=>by
  rw [List.eq_of_mem_replicate c];exact ⟨B2z _ h.hc _,by rw [List.length_replicate];have:=h.hc;omega⟩
 refine C1m (s:=X8 f a) (C5i h.hc h.hr h.h1 h.h2 rfl) (C5v h.hc h.hr) (B3h h.hc h.hr) (B2d (by simp only [List.length_replicate,X8];omega) h.hr d) (B2d (by simp [X8]) h.hr ?_) h.hc (C1i _ h.hc) C3s (show Q2 Sts.zero=0 by decide +kernel) (by unfold X8;rfl) h.sh h.ti rfl
 intro r hr
 obtain ⟨x,c,rfl⟩:=List.mem_map.1 hr
 exact ⟨(h.ro x c).2,(h.ro x c).1⟩
end Go.Proofs.YtkdgfkfbljdgmaaGreatDoor
set_option linter.unusedVariables false
set_option linter.unusedSimpArgs false
namespace Go.Proofs.YtkdgfkfbljdgmaaGreatDoor
open Go Go.Fen
theorem C6k:A5n=true:=by kernel_rfl
theorem B6g {α:Type} {xs ys:List α} (d:α) (c:xs.length=ys.length) (h:∀ i,i<xs.length→xs.getD i d=ys.getD i d):xs=ys:=by
 apply List.ext_getElem c
 intro i a b
 have:=h i a
 rwa [gdE a,gdE b] at this
theorem B8w (s:Shf) (r:Int):C0 s r=if r<s.top∨s.bottom<r then r else if s.top≤r+s.amt∧r+s.amt≤s.bottom then r+s.amt else -1:=by
 unfold C0;simp only [Bool.cond_eq_ite,Bool.or_eq_true,Bool.and_eq_true,decide_eq_true_eq]
theorem B6b (c:Int):X4 c=List.replicate c.toNat (G4 Sty.zero):=by
 refine B6g Cel.zero (by rw [A8f,List.length_replicate]) fun i a=>?_
 rw [A8f] at a
 rw [B5d c i a,gdE (by rw [List.length_replicate];exact a),List.getElem_replicate];rfl
def blR (c:Int):Rwc Cel:=⟨List.replicate c.toNat (G4 Sty.zero),false⟩
theorem B8x (c n:Int) (a:2≤c∧c≤80):L7 c n Sty.zero=List.replicate n.toNat (blR c):=by
 unfold L7
 rw [A7y c a _ _ 0 oom rfl]
 simp [blR]
theorem C4v {α:Type} (d:α) (g p:List α) (t k:Nat) (a:p.length=k) (b:t+k≤g.length) (r:Nat) :
  (g.take t++(p.take (g.length - t)++g.drop (t+min p.length (g.length - t)))).getD r d=if r<t then g.getD r d else if r<t+k then p.getD (r - t) d else g.getD r d:=by
 rw [List.take_of_length_le (by omega:p.length≤g.length - t),Nat.min_eq_left opx,a]
 simp only [List.getD_eq_getElem?_getD]
 by_cases h1:r<t
 ·rw [if_pos h1,List.getElem?_append_left (by rw [List.length_take];omega),List.getElem?_take_of_lt h1]
 ·rw [if_neg h1,List.getElem?_append_right (by rw [List.length_take];omega),List.length_take,Nat.min_eq_left opx]
  by_cases h2:r<t+k
  ·rw [if_pos h2,List.getElem?_append_left opx]
  ·rw [if_neg h2,List.getElem?_append_right opx,List.getElem?_drop,a,show t+k+(r - t - k)=r by omega]
theorem C4i {α:Type} (g p:List α) (t:Nat) (a:t≤g.length):(g.take t++(p.take (g.length - t)++g.drop (t+min p.length (g.length - t)))).length=g.length:=C3h g p t a
section
variable {g:List (Rwc Cel)} {c top bottom n:Int}
theorem C4x (h:(0≤top∧top≤bottom)∧bottom<(g.length:Int)):((g.drop top.toNat).take (bottom.toNat+1 - top.toNat)).length=bottom.toNat+1 - top.toNat:=by
 simp only [List.length_take,List.length_drop];omega
theorem C5n (h:(0≤top∧top≤bottom)∧bottom<(g.length:Int)) {j:Nat} (a:j<bottom.toNat+1 - top.toNat):((g.drop top.toNat).take (bottom.toNat+1 - top.toNat))[j]?=g[top.toNat+j]?:=by
 rw [List.getElem?_take_of_lt a,List.getElem?_drop]
theorem B6m (b:K9 g=0) (h:(0≤top∧top≤bottom)∧bottom<(g.length:Int)) (a:0≤n):((((decide (top<0))||(decide (bottom<top)))||(decide ((g.length:Int)≤bottom)))||(decide (n<0)))=false:=by
 simp only [Bool.or_eq_false_iff,decide_eq_false_iff_not];omega
theorem D1u (b:K9 g=0) (d:M5 g=c) (h:(0≤top∧top≤bottom)∧bottom<(g.length:Int)) (i:1≤n∧n≤bottom - top) :
  (A5z g top bottom n Sty.zero).1.length=g.length∧∀ r:Nat,(A5z g top bottom n Sty.zero).1.getD r zwc=if top≤r∧(r:Int)≤bottom then (if (r:Int)+n≤bottom then g.getD (r+n.toNat) zwc else blR c) else g.getD r zwc:=by
 have e:=A3b b
 have a:=C4x h
 unfold A5z A7j E8
 rw [b,C3s,B6m b h opx]
 simp only [decide_true,Bool.not_true,cond_false]
 unfold A0r E8 A1n A4n
 rw [a,if_neg (show ¬ ((bottom.toNat+1 - top.toNat:Nat):Int)<n by omega),d,B8x c n (by rw [← d];exact e.2)]
 have f:(List.drop n.toNat ((g.drop top.toNat).take (bottom.toNat+1 - top.toNat))++List.replicate n.toNat (blR c)).length=bottom.toNat+1 - top.toNat:=by
  rw [List.length_append,List.length_drop,a,List.length_replicate];omega
 refine ⟨C4i _ _ _ opx,fun r=>?_⟩
 rw [C4v zwc _ _ _ _ f opx]
 by_cases h1:r<top.toNat
 ·rw [if_pos h1,if_neg opx]
 ·rw [if_neg h1]
  by_cases h2:r<top.toNat+(bottom.toNat+1 - top.toNat)
  ·rw [if_pos h2,if_pos opx]
   simp only [List.getD_eq_getElem?_getD]
   by_cases h3:(r:Int)+n≤bottom
   ·rw [if_pos h3,List.getElem?_append_left (by rw [List.length_drop,a];omega),List.getElem?_drop,C5n h opx,show top.toNat+(n.toNat+(r - top.toNat))=r+n.toNat by omega]
   ·rw [if_neg h3,List.getElem?_append_right (by rw [List.length_drop,a];omega),List.getElem?_replicate,if_pos (by rw [List.length_drop,a];omega)];rfl
  ·rw [if_neg h2,if_neg opx]
theorem C7k (a:K9 g=0) (d:M5 g=c) (h:(0≤top∧top≤bottom)∧bottom<(g.length:Int)) (i:1≤n∧n≤bottom - top) :
  (A1v g top bottom n Sty.zero).1.length=g.length∧∀ r:Nat,(A1v g top bottom n Sty.zero).1.getD r zwc=if top≤r∧(r:Int)≤bottom then (if top≤(r:Int) - n then g.getD (r - n.toNat) zwc else blR c) else g.getD r zwc:=by
 have e:=A3b a
 have b:=C4x h
 unfold A1v A9p E8
 rw [a,C3s,B6m a h opx]
 simp only [decide_true,Bool.not_true,cond_false]
 unfold A0r E8 A1n A1o
 rw [b,if_neg (show ¬ ((bottom.toNat+1 - top.toNat:Nat):Int)<n by omega),d,B8x c n (by rw [← d];exact e.2)]
 have f:(List.replicate n.toNat (blR c)++List.take (bottom.toNat+1 - top.toNat - n.toNat) ((g.drop top.toNat).take (bottom.toNat+1 - top.toNat))).length=bottom.toNat+1 - top.toNat:=by
  rw [List.length_append,List.length_take,b,List.length_replicate];omega
 refine ⟨C4i _ _ _ opx,fun r=>?_⟩
 rw [C4v zwc _ _ _ _ f opx]
 by_cases h1:r<top.toNat
 ·rw [if_pos h1,if_neg opx]
 ·rw [if_neg h1]
  by_cases h2:r<top.toNat+(bottom.toNat+1 - top.toNat)
  ·rw [if_pos h2,if_pos opx]
   simp only [List.getD_eq_getElem?_getD]
   by_cases h3:top≤(r:Int) - n
   ·rw [if_pos h3,List.getElem?_append_right (by rw [List.length_replicate];omega),List.length_replicate,List.getElem?_take_of_lt opx,C5n h opx,show top.toNat+(r - top.toNat - n.toNat)=r - n.toNat by omega]
   ·rw [if_neg h3,List.getElem?_append_left (by rw [List.length_replicate];omega),List.getElem?_replicate,if_pos opx];rfl
  ·rw [if_neg h2,if_neg opx]
end
theorem D2s {r c t b:Int} (e:2≤c∧c≤80) (hr:1≤r∧r≤40) (d:0≤t) (a:b<r) (h:t<b∨(t=0∧r=1∧b=0)):M7 r c t b false=0:=by
 unfold M7
 have:(((!((((decide ((1:Int)≤r))&&(decide (r≤40)))&&(decide ((2:Int)≤c)))&&(decide (c≤80))))||(!(((decide ((0:Int)≤t))&&(decide (b<r)))&&((decide (t<b))||((decide (t=0))&&(decide (r=1)))))))||(decide (b<t)))=false:=by
  simp only [Bool.or_eq_false_iff,Bool.not_eq_false',Bool.and_eq_true,Bool.or_eq_true,decide_eq_true_eq,decide_eq_false_iff_not];omega
 rw [this];rfl
theorem C5e {r c t b:Int} (e:2≤c∧c≤80) (hr:1≤r∧r≤40) (d:0≤t) (a:b<r) (h:t<b∨(t=0∧r=1∧b=0)):(X9 r c t b false).1=Cur.zero:=by
 unfold X9 A6d E8
 rw [D2s e hr d a h]
 simp only [decide_true,Bool.not_true,cond_false]
 unfold A0e
 rw [A9i (show (1:Int)≤1∧1≤r by omega),A9i (show (1:Int)≤1∧1≤c by omega),w64 (x:=1 - 1) opx,w64 (x:=(1 - 1:Int)+0) opx,w64 (x:=r - 1) opx,A9i (show (0:Int)≤1 - 1+0∧(1 - 1+0:Int)≤r - 1 by omega)]
 rfl
theorem C3o {f:FrmC} {a:List (List Cel)} (F:FOk f a) {M A:List (Rwc Cel)} {T:List Bool} {t b:Int} (h:0≤t∧t<b∧b<(a.length:Int)) :
  D9 (X8 f a) M A T ⟨38,t+1,b+1,Col.zero,[]⟩={X8 f a with top:=t,bottom:=b,cursor:=Cur.zero}:=by
 have hr:=F.hr
 unfold D9 E8
 have e:M2 (X8 f a).rows (t+1) (b+1)=(t,b,true):=by
  show M2 (a.length:Int) (t+1) (b+1)=_
  unfold M2 Q0
  rw [decide_eq_false (show ¬ t+1=0 by omega),decide_eq_false (show ¬ b+1=0 by omega),decide_eq_false (show ¬ (a.length:Int)<b+1 by omega),decide_eq_false (show ¬ t+1<1 by omega),decide_eq_false (show ¬ b+1≤t+1 by omega),w64 (x:=t+1 - 1) opx,w64 (x:=b+1 - 1) opx]
  simp
 simp only [e,cond_true]
 show ({X8 f a with top:=t,bottom:=b,cursor:=(X9 (a.length:Int) f.cols t b false).1}:ScrC)=_
 rw [C5e (r:=(a.length:Int)) (c:=f.cols) (t:=t) (b:=b) F.hc hr h.1 h.2.2 (.inl h.2.1)]
theorem C1e {f:FrmC} {a:List (List Cel)} (F:FOk f a) {M A:List (Rwc Cel)} {T:List Bool} {t b:Int} (h:2≤(a.length:Int)) :
  H8 {X8 f a with top:=t,bottom:=b,cursor:=Cur.zero} M A T ⟨38,0,0,Col.zero,[]⟩={X8 f a with cursor:=Cur.zero}:=by
 have hr:=F.hr
 unfold H8 E8
 have e:M2 (X8 f a).rows 0 0=(0,(a.length:Int) - 1,true):=by
  show M2 (a.length:Int) 0 0=_
  unfold M2 Q0
  rw [decide_eq_false (show ¬ (a.length:Int)≤1 by omega),w64 (x:=(a.length:Int) - 1) opx,w64 (x:=(1:Int) - 1) opx]
  rfl
 simp only [e,cond_true]
 show ({X8 f a with cursor:=(X9 (a.length:Int) f.cols 0 ((a.length:Int) - 1) false).1}:ScrC)=_
 rw [C5e (r:=(a.length:Int)) (c:=f.cols) (t:=0) (b:=(a.length:Int) - 1) F.hc hr (Int.le_refl _) opx (.inl opx)]
def B6t (a:List (List Cel)) (s:Shf):List (Rwc Cel):=if s.amt<0 then (A1v (a.map fun x=>(⟨x,false⟩:Rwc Cel)) s.top s.bottom (-s.amt) Sty.zero).1 else (A5z (a.map fun x=>(⟨x,false⟩:Rwc Cel)) s.top s.bottom s.amt Sty.zero).1
theorem B6i {a b n:Int} (h:a≤n∧n≤b):E7 ⟨a,b⟩ n=true:=by
 unfold E7;rw [decide_eq_true h.1,decide_eq_true h.2];rfl
theorem C8s {f:FrmC} {a:List (List Cel)} (F:FOk f a) {s:Shf} (b:F8 s (a.length:Int)=0) {n m:Int} (g:(n=0∧m=s.amt∧0<s.amt)∨(n=1∧m=-s.amt∧s.amt<0)) :
  A3p (X8 f a) (List.replicate (a.length:Int).toNat ⟨List.replicate f.cols.toNat (G4 Sty.zero),false⟩) (a.map fun x=>⟨x,false⟩) (Q5 f.cols).1 [⟨38,s.top+1,s.bottom+1,Col.zero,[]⟩,⟨33,n,m,Col.zero,[]⟩,⟨38,0,0,Col.zero,[]⟩] =
  ({X8 f a with cursor:=Cur.zero},List.replicate (a.length:Int).toNat ⟨List.replicate f.cols.toNat (G4 Sty.zero),false⟩,B6t a s,(Q5 f.cols).1,0):=by
 have j:=X2 b
 have hr:=F.hr
 unfold A3p
 rw [C2o F]
 have e:J4 (s.top+1) (s.bottom+1) Col.zero []=0:=by
  unfold J4;rw [B6i opx,B6i opx];rfl
 have c:O0 n m Col.zero []=0:=by
  unfold O0;rw [B6i opx,B6i opx];rfl
 have d:J4 0 0 Col.zero []=0:=by
  unfold J4;rw [B6i opx];rfl
 show (bif !decide ((0:Int)=0) then _ else bif !decide (J4 (s.top+1) (s.bottom+1) Col.zero []=0) then _ else bif !decide (O0 n m Col.zero []=0) then _ else bif !decide (J4 0 0 Col.zero []=0) then _ else bif !(O2 (s.top+1) (s.bottom+1) Col.zero []) then W6 _ _ _ _ (X8 f a) else _)=_
 rw [e,c,d]
 simp only [decide_true,Bool.not_true,cond_false,O2,Bool.not_false,cond_true]
 unfold W6
 simp only [Z6,Bool.not_false,cond_true]
 show S7 _ _ _ _ {D9 (X8 f a) _ _ _ ⟨38,s.top+1,s.bottom+1,Col.zero,[]⟩ with last:=0,cursor:={(D9 (X8 f a) _ _ _ ⟨38,s.top+1,s.bottom+1,Col.zero,[]⟩).cursor with wrap:=false}}=_
 rw [C3o F opx]
 show S7 _ _ _ _ {X8 f a with top:=s.top,bottom:=s.bottom,cursor:=Cur.zero}=_
 unfold S7 E8
 simp only [O2,Bool.not_false,cond_true]
 have i:O8 {X8 f a with top:=s.top,bottom:=s.bottom,cursor:=Cur.zero} (List.replicate (a.length:Int).toNat ⟨List.replicate f.cols.toNat (G4 Sty.zero),false⟩) (a.map fun x=>⟨x,false⟩) (Q5 f.cols).1 ⟨33,n,m,Col.zero,[]⟩=B6t a s:=by
  unfold O8 E8 Z2 E8 B6t
  show (bif decide (m * (1 - 2 * n)<0) then (A1v _ s.top s.bottom (-(m * (1 - 2 * n))) Sty.zero).1 else (A5z _ s.top s.bottom (m * (1 - 2 * n)) Sty.zero).1)=_
  rcases g with ⟨rfl,rfl,h⟩ | ⟨rfl,rfl,h⟩
  ·rw [show s.amt * (1 - 2 * 0)=s.amt by omega,decide_eq_false opx,if_neg opx];rfl
  ·rw [show -s.amt * (1 - 2 * 1)=s.amt by omega,decide_eq_true h,if_pos h];rfl
 show W5 _ _ (O8 _ _ _ _ ⟨33,n,m,Col.zero,[]⟩) {X8 f a with top:=s.top,bottom:=s.bottom,cursor:=Cur.zero}=_
 rw [i]
 unfold W5
 rw [C1e F opx]
theorem C9h {s:Shf} {n:Int} (a:F8 s n=0):∃ k m:Int,R2 s n=([⟨38,s.top+1,s.bottom+1,Col.zero,[]⟩,⟨33,k,m,Col.zero,[]⟩,⟨38,0,0,Col.zero,[]⟩],0)∧((k=0∧m=s.amt∧0<s.amt)∨(k=1∧m=-s.amt∧s.amt<0)):=by
 have b:=X2 a
 unfold R2 R5
 rw [a]
 simp only [decide_true,Bool.not_true,cond_false]
 by_cases h:s.amt<0
 ·rw [decide_eq_true h];exact ⟨1,-s.amt,rfl,.inr ⟨rfl,rfl,h⟩⟩
 ·rw [decide_eq_false h];exact ⟨0,s.amt,rfl,.inl ⟨rfl,rfl,by omega⟩⟩
theorem C7y {f:FrmC} {a:List (List Cel)} (F:FOk f a):K9 (a.map fun x=>(⟨x,false⟩:Rwc Cel))=0∧M5 (a.map fun x=>(⟨x,false⟩:Rwc Cel))=f.cols:=by
 have hr:=F.hr
 have b:0<a.length:=by omega
 have d:M5 (a.map fun x=>(⟨x,false⟩:Rwc Cel))=f.cols:=by
  unfold M5
  rw [gdE (by rw [List.length_map];exact b),List.getElem_map]
  exact (F.ro _ (List.getElem_mem b)).1
 refine ⟨?_,d⟩
 unfold K9
 rw [List.length_map,decide_eq_false (show ¬ (a.length:Int)<1 by omega),decide_eq_false (show ¬ 40<(a.length:Int) by omega)]
 refine B1b _ _ 0 fun r hr=>?_
 obtain ⟨x,c,rfl⟩:=List.mem_map.1 hr
 exact ⟨(F.ro x c).2,(F.ro x c).1.trans d.symm⟩
theorem C6r (a:List (List Cel)) {i:Nat} (h:i<a.length):(a.map fun x=>(⟨x,false⟩:Rwc Cel)).getD i zwc=⟨a.getD i [],false⟩:=by
 rw [gdE (by rw [List.length_map];exact h),List.getElem_map,gdE h]
theorem C6n {f:FrmC} {a o:List (List Cel)} (F:FOk f a) {s:Shf} (j:F8 s (a.length:Int)=0) (i:o.length=a.length) (e:∀ r,r<a.length→o.getD r []=B0m f.cols a s r):B6t a s=o.map fun x=>⟨x,false⟩:=by
 have l:=X2 j
 obtain ⟨g,d⟩:=C7y F
 have k:((a.map fun x=>(⟨x,false⟩:Rwc Cel)).length:Int)=a.length:=by rw [List.length_map]
 unfold B6t
 by_cases h:s.amt<0
 ·rw [if_pos h]
  obtain ⟨b,c⟩:=C7k g d (top:=s.top) (bottom:=s.bottom) (n:=-s.amt) opx opx
  refine B6g zwc (by rw [b,List.length_map,List.length_map,i]) fun r hr=>?_
  rw [b,List.length_map] at hr
  rw [c,C6r o opx,e r hr]
  unfold B0m
  rw [B8w]
  by_cases h3:s.top≤r∧(r:Int)≤s.bottom
  ·rw [if_pos h3,if_neg (show ¬ ((r:Int)<s.top∨s.bottom<(r:Int)) by omega)]
   by_cases h4:s.top≤(r:Int) - -s.amt
   ·rw [if_pos h4,if_pos (show s.top≤(r:Int)+s.amt∧(r:Int)+s.amt≤s.bottom by omega),if_pos opx,C6r a opx,show r - (-s.amt).toNat=((r:Int)+s.amt).toNat by omega]
   ·rw [if_neg h4,if_neg (show ¬ (s.top≤(r:Int)+s.amt∧(r:Int)+s.amt≤s.bottom) by omega),if_neg opx,B6b];rfl
  ·rw [if_neg h3,if_pos (show (r:Int)<s.top∨s.bottom<(r:Int) by omega),if_pos opx,C6r a opx,Int.toNat_natCast]
 ·rw [if_neg h]
  obtain ⟨b,c⟩:=D1u g d (top:=s.top) (bottom:=s.bottom) (n:=s.amt) opx opx
  refine B6g zwc (by rw [b,List.length_map,List.length_map,i]) fun r hr=>?_
  rw [b,List.length_map] at hr
  rw [c,C6r o opx,e r hr]
  unfold B0m
  rw [B8w]
  by_cases h3:s.top≤r∧(r:Int)≤s.bottom
  ·rw [if_pos h3,if_neg (show ¬ ((r:Int)<s.top∨s.bottom<(r:Int)) by omega)]
   by_cases h4:(r:Int)+s.amt≤s.bottom
   ·rw [if_pos h4,if_pos (show s.top≤(r:Int)+s.amt∧(r:Int)+s.amt≤s.bottom by omega),if_pos opx,C6r a opx,show r+s.amt.toNat=((r:Int)+s.amt).toNat by omega]
   ·rw [if_neg h4,if_neg (show ¬ (s.top≤(r:Int)+s.amt∧(r:Int)+s.amt≤s.bottom) by omega),if_neg opx,B6b];rfl
  ·rw [if_neg h3,if_pos (show (r:Int)<s.top∨s.bottom<(r:Int) by omega),if_pos opx,C6r a opx,Int.toNat_natCast]
theorem B0l (f:FrmC):∀ (a:List (List Cel)) (t:Nat),(∀ r ∈ a,(r.length:Int)=f.cols∧K8 r false=0)→I5 f a true t=0
 | [],t,_=>rfl
 | r::a,t,h=>by
  have b:=h r (List.mem_cons_self ..)
  simp only [I5]
  rw [decide_eq_true b.1,decide_eq_true b.2]
  exact B0l f a (t+1) (fun x c=>h x (List.mem_cons_of_mem _ c))
theorem C7z {f:FrmC} {a:List (List Cel)} (F:FOk f a):F3 f a=0:=by
 unfold F3
 rw [decide_eq_true F.hc.1,decide_eq_true F.hc.2,decide_eq_true F.hr.1,decide_eq_true F.hr.2,decide_eq_true F.h1.1,decide_eq_true F.h1.2,decide_eq_true F.h2.1,decide_eq_true F.h2.2,decide_eq_true F.sh.1,decide_eq_true F.sh.2,decide_eq_true F.ti]
 exact B0l f a 0 F.ro
theorem C9s {f:FrmC} {a o:List (List Cel)} (F:FOk f a) {s:Shf} (e:F8 s (a.length:Int)=0) (c:o.length=a.length) (k:∀ r,r<a.length→o.getD r []=B0m f.cols a s r):FOk {f with cursor:=Plc.zero} o:=by
 have hr:=F.hr
 have j:=F.hc
 have m:=X2 e
 refine ⟨F.hc,by rw [c];exact F.hr,⟨Int.le_refl _,by show (0:Int)<_;rw [c];omega⟩,⟨Int.le_refl _,by show (0:Int)<f.cols;omega⟩,F.sh,F.ti,fun x l=>?_⟩
 obtain ⟨i,g,rfl⟩:=List.getElem_of_mem l
 rw [← gdE (d:=[]) g,k i opx]
 have b:=(U1 s (i:Int)).2 a.length opx opx opx
 unfold B0m
 by_cases h:0≤C0 s (i:Int)
 ·rw [if_pos h,gdE opx];exact F.ro _ (List.getElem_mem _)
 ·rw [if_neg h,B6b];exact ⟨by rw [List.length_replicate];show ((f.cols.toNat:Nat):Int)=f.cols;omega,B2z _ j _⟩
theorem C8e (b:List Bool):∀ (l:List Bool) (i:Nat),l=b.drop i→I2 b l i=true
 | [],i,h=>rfl
 | a::l,i,h=>by
  have d:i<b.length:=by
   rcases Nat.lt_or_ge i b.length with c | c
   ·exact c
   ·rw [List.drop_of_length_le c] at h;cases h
  rw [List.drop_eq_getElem_cons d] at h
  obtain ⟨rfl,e⟩:=List.cons.inj h
  simp only [I2]
  rw [C8e b l (i+1) e,gdE d];simp
theorem C6v (b:List Cel):∀ (l:List Cel) (i:Nat),l=b.drop i→F5 b l i=true
 | [],i,h=>rfl
 | a::l,i,h=>by
  have d:i<b.length:=by
   rcases Nat.lt_or_ge i b.length with c | c
   ·exact c
   ·rw [List.drop_of_length_le c] at h;cases h
  rw [List.drop_eq_getElem_cons d] at h
  obtain ⟨rfl,e⟩:=List.cons.inj h
  simp only [F5]
  rw [C6v b l (i+1) e,gdE d];simp
theorem C8n (b:List (Rwc Cel)):∀ (l:List (Rwc Cel)) (i:Nat),l=b.drop i→C6 b l i=true
 | [],i,h=>rfl
 | a::l,i,h=>by
  have d:i<b.length:=by
   rcases Nat.lt_or_ge i b.length with c | c
   ·exact c
   ·rw [List.drop_of_length_le c] at h;cases h
  rw [List.drop_eq_getElem_cons d] at h
  obtain ⟨rfl,e⟩:=List.cons.inj h
  simp only [C6]
  rw [C8n b l (i+1) e,gdE d]
  unfold B2p G3
  rw [C6v b[i].l b[i].l 0 rfl];simp
theorem B5x (g:List (Rwc Cel)):A1t g g=true:=by
 unfold A1t G0
 rw [C8n g g 0 rfl];simp
theorem C3e (s:ScrC) (m a:List (Rwc Cel)) (t:List Bool):A0o s m a t s m a t=true:=by
 unfold A0o A6u Q7
 rw [B5x,B5x,C8e t t 0 rfl,show A5d=true from rfl];simp
theorem B7k (f:FrmC) (a:List (List Cel)) (s:Shf):A0n f a s=true:=by
 unfold A0n E8
 rw [C6k]
 simp only [Bool.not_true,cond_false]
 by_cases h0:(K2 f a s).2.2=0
 ·obtain ⟨i,g,o,e,c,d⟩:=B7u rfl h0
  have F:=C7x i
  have G:=C9s F g c d
  obtain ⟨k,m,j,l⟩:=C9h g
  rw [e]
  simp only [decide_true,Bool.not_true,cond_false]
  rw [j,C2j F i,C2j G (C7z G)]
  simp only [decide_true,Bool.not_true,Bool.or_self,cond_false,Bool.true_and]
  rw [C8s F g l,C6n F g c d]
  simp only [decide_true,Bool.true_and]
  rw [show X8 {f with cursor:=Plc.zero} o={X8 f a with cursor:=Cur.zero} by unfold X8;simp only [c];rfl,c]
  exact C3e _ _ _ _
 ·rw [decide_eq_false h0]
  simp only [Bool.not_false,cond_true]
  have:(K2 f a s).2.2=330∨(K2 f a s).2.2=2:=by
   by_cases h1:F3 f a=0
   ·by_cases h2:F8 s (a.length:Int)=0
    ·exfalso;apply h0
     obtain ⟨o,n,_⟩:=Z3 f a s a 0 (List.replicate a.length ([]:List Cel)) oom
     unfold K2;rw [h1,h2];simp only [decide_true,Bool.not_true,cond_false];rw [n]
    ·right
     have:F8 s (a.length:Int)=2:=by
      unfold F8 at h2 ⊢
      generalize ((((((((decide ((a.length:Int)<1))||(decide ((40:Int)<(a.length:Int))))||(decide (s.top<0)))||(decide (s.bottom<s.top)))||(decide ((a.length:Int)≤s.bottom)))||(decide (s.amt=0)))||(decide (s.amt<(s.top - s.bottom))))||(decide ((s.bottom - s.top)<s.amt)))=b at h2 ⊢
      cases b with
      | true=>rfl
      | false=>exact absurd rfl h2
     unfold K2;rw [h1,this];rfl
   ·left
    have:=C6a h1
    unfold K2;rw [this];rfl
  rcases this with h | h<;>rw [h]<;>rfl
end Go.Proofs.YtkdgfkfbljdgmaaGreatDoor
