import Derived.Test.YtanighkpfmgnbaaGreatDoorUN2
import Derived.Test.YtanighkpfmgnbaaGreatDoorUB5
set_option linter.unusedVariables false
set_option linter.unusedSimpArgs false
set_option maxRecDepth 10000
namespace Go.Proofs.YtanighkpfmgnbaaGreatDoor
open Go Go.Fen
theorem D5h:∀ (l b:List Act) (i:Nat),i+l.length=b.length→Y8 b l i=decide (l=b.drop i)
 | [],b,i,h=>by
  rw [Y8,List.drop_eq_nil_of_le (by simp only [List.length_nil] at h;omega)];rfl
 | a::l,b,i,h=>by
  have hi:i<b.length:=by simp only [List.length_cons] at h;omega
  rw [Y8,D5h l b (i+1) (by simp only [List.length_cons] at h;omega),List.drop_eq_getElem_cons hi]
  have e:b.getD i Act.zero=b[i]:=by simp [List.getD_eq_getElem?_getD,hi]
  rw [e]
  by_cases h1:a=b[i]
  ·rw [decide_eq_true h1,Bool.not_true,cond_false];exact decide_eq_decide.2 ⟨fun e2=>by rw [h1,e2],fun e2=>(List.cons.inj e2).2⟩
  ·rw [decide_eq_false h1,Bool.not_false,cond_true,decide_eq_false (fun e=>h1 (List.cons.inj e).1)]
theorem D4d (x y:List Act):W3 x y=decide (x=y):=by
 unfold W3
 by_cases h:x.length=y.length
 ·rw [decide_eq_true (by omega:(x.length:Int)=(y.length:Int)),Bool.not_true,cond_false,D5h x y 0 (by omega),List.drop_zero]
 ·rw [decide_eq_false (by omega:¬ (x.length:Int)=(y.length:Int)),Bool.not_false,cond_true,decide_eq_false (fun e=>h (by rw [e]))]
end Go.Proofs.YtanighkpfmgnbaaGreatDoor
set_option linter.unusedVariables false
set_option linter.unusedSimpArgs false
set_option maxRecDepth 10000
namespace Go.Proofs.YtanighkpfmgnbaaGreatDoor
open Go Go.Fen
def B3a (l:List UInt8):Int:=l.foldl (fun v c=>10 * v+((c.toNat:Int) - 48)) 0
def D3c (l:List UInt8):Prop:=∀ b ∈ l,48≤b.toNat∧b.toNat≤57
theorem C1s (d:Nat) (h:d<10):(UInt8.ofNat (48+d)).toNat=48+d:=by
 rw [UInt8.toNat_ofNat'];omega
theorem D4x:∀ (fu n:Nat),n<fu→B3a (Lib.decDigits n)=n∧D3c (Lib.decDigits n)
 | 0,n,h=>by omega
 | fu+1,n,h=>by
  rw [Lib.decDigits]
  split
  ·rename_i h10
   refine ⟨?_,?_⟩
   ·show (10 * 0+((((UInt8.ofNat (48+n)).toNat:Nat):Int) - 48))=_
    rw [C1s n h10];omega
   ·intro b hb;rw [List.mem_singleton.1 hb,C1s n h10];omega
  ·rename_i h10
   obtain ⟨h1,h2⟩:=D4x fu (n / 10) (by omega)
   refine ⟨?_,?_⟩
   ·unfold B3a at h1 ⊢
    rw [List.foldl_append,h1]
    show 10 * ((n / 10:Nat):Int)+((((UInt8.ofNat (48+n % 10)).toNat:Nat):Int) - 48)=_
    rw [C1s _ (by omega)];omega
   ·intro b hb
    rcases List.mem_append.1 hb with hb | hb
    ·exact h2 b hb
    ·rw [List.mem_singleton.1 hb,C1s _ (by omega)];omega
theorem E3y (n:Nat):Lib.decDigits n≠[]:=by rw [Lib.decDigits];split<;>simp
theorem A8t {n:Int} (h:0≤n):B3a (Lib.itoa n)=n∧D3c (Lib.itoa n)∧Lib.itoa n≠[]:=by
 rw [Lib.itoa,if_neg (by omega)]
 have:=D4x (n.toNat+1) n.toNat (by omega)
 exact ⟨by rw [this.1];omega,this.2,E3y _⟩
def A4x (k:Int) (l:List UInt8):Int:=if l=[] then k else B3a l
theorem B7h (k:Int) {n:Int} (h:0≤n):A4x k (J3 n k)=n∧D3c (J3 n k):=by
 rw [C1z k h]
 by_cases e:n=k
 ·rw [if_pos e];exact ⟨by rw [A4x,if_pos rfl,e],fun b hb=>by cases hb⟩
 ·rw [if_neg e]
  have:=A8t h
  exact ⟨by rw [A4x,if_neg this.2.2,this.1],this.2.1⟩
theorem D9a {α:Type} (p:α→Prop):∀ {l l':List α} {x x':α} {z z':List α},(∀ b ∈ l,p b)→(∀ b ∈ l',p b)→¬ p x→¬ p x'→l++x::z=l'++x'::z'→l=l'∧x=x'∧z=z'
 | [],[],x,x',z,z',_,_,_,_,e=>by
  injection e with e1 e2;exact ⟨rfl,e1,e2⟩
 | [],b::l',x,x',z,z',_,h',hx,_,e=>by
  injection e with e1 e2;exact absurd (e1▸h' b (List.mem_cons_self ..)) hx
 | b::l,[],x,x',z,z',h,_,_,hx,e=>by
  injection e with e1 e2;exact absurd (e1▸h b (List.mem_cons_self ..)) hx
 | b::l,c::l',x,x',z,z',h,h',hx,hx',e=>by
  injection e with e1 e2
  obtain ⟨i1,i2,i3⟩:=D9a p (fun a ha=>h a (List.mem_cons_of_mem _ ha)) (fun a ha=>h' a (List.mem_cons_of_mem _ ha)) hx hx' e2
  exact ⟨by rw [e1,i1],i2,i3⟩
def B1u (b:UInt8):Prop:=48≤b.toNat∧b.toNat≤57
theorem C2g {n:Int} (h:-1≤n):∀ b ∈ A9k n,B1u b:=by
 by_cases e:n=-1
 ·subst e;intro b hb;cases hb
 ·rw [A7h (by omega)];exact (A8t (by omega)).2.1
theorem D8l {n m:Int} (hn:-1≤n) (hm:-1≤m) (h:A9k n=A9k m):n=m:=by
 by_cases e:n=-1
 ·by_cases e2:m=-1
  ·rw [e,e2]
  ·rw [A7h (n:=m) (by omega),e] at h;exact absurd h.symm (A8t (by omega)).2.2
 ·by_cases e2:m=-1
  ·rw [A7h (n:=n) (by omega),e2] at h;exact absurd h (A8t (by omega)).2.2
  ·rw [A7h (n:=n) (by omega),A7h (n:=m) (by omega)] at h
   have h1:=(A8t (n:=n) (by omega)).1
   rw [h,(A8t (n:=m) (by omega)).1] at h1;exact h1.symm
theorem D0t (s:List Int) (x:UInt8) (z:List UInt8) (hx:¬ B1u x):∃ c w,pr3 [58] s++x::z=c::w∧¬ B1u c:=by
 cases s with
 | nil=>exact ⟨x,z,rfl,hx⟩
 | cons n s=>exact ⟨58,A9k n++pr3 [58] s++x::z,rfl,by unfold B1u;decide⟩
theorem D5p:∀ {r r':List Int} {x x':UInt8} {z z':List UInt8},(∀ n ∈ r,-1≤n)→(∀ n ∈ r',-1≤n)→¬ B1u x∧x≠58→¬ B1u x'∧x'≠58→pr3 [58] r++x::z=pr3 [58] r'++x'::z'→r=r'∧x::z=x'::z'
 | [],[],x,x',z,z',_,_,_,_,e=>⟨rfl,e⟩
 | [],n::r',x,x',z,z',_,_,hx,_,e=>by
  injection e with e1 e2;exact absurd e1 hx.2
 | n::r,[],x,x',z,z',_,_,_,hx,e=>by
  injection e with e1 e2;exact absurd e1.symm hx.2
 | n::r,m::r',x,x',z,z',h,h',hx,hx',e=>by
  have e2:A9k n++(pr3 [58] r++x::z)=A9k m++(pr3 [58] r'++x'::z'):=by
   have e0:58::((A9k n++pr3 [58] r)++x::z)=58::((A9k m++pr3 [58] r')++x'::z'):=e
   injection e0 with _ e0
   rwa [List.append_assoc,List.append_assoc] at e0
  obtain ⟨c,w,k1,k2⟩:=D0t r x z hx.1
  obtain ⟨c',w',k1',k2'⟩:=D0t r' x' z' hx'.1
  have hn:=h n (List.mem_cons_self ..)
  have hm:=h' m (List.mem_cons_self ..)
  rw [k1,k1'] at e2
  obtain ⟨i1,i2,i3⟩:=D9a B1u (C2g hn) (C2g hm) k2 k2' e2
  obtain ⟨j1,j2⟩:=D5p (r:=r) (r':=r') (x:=x) (x':=x') (z:=z) (z':=z') (fun a ha=>h a (List.mem_cons_of_mem _ ha)) (fun a ha=>h' a (List.mem_cons_of_mem _ ha)) hx hx' (by rw [k1,k1',i2,i3])
  exact ⟨by rw [D8l hn hm i1,j1],j2⟩
theorem E0z {r r':List Int} {x x':UInt8} {z z':List UInt8} (h:A4b r) (h':A4b r') (hx:¬ B1u x∧x≠58) (hx':¬ B1u x'∧x'≠58) (e:pr3 [] r++x::z=pr3 [] r'++x'::z'):r=r'∧x::z=x'::z':=by
 cases r with
 | nil=>exact absurd h.1 (by simp)
 | cons n r =>
  cases r' with
  | nil=>exact absurd h'.1 (by simp)
  | cons m r' =>
   have hh:∀ a ∈ n::r,-1≤a:=fun a ha=>(h.2.2.2 a ha).1
   have hh':∀ a ∈ m::r',-1≤a:=fun a ha=>(h'.2.2.2 a ha).1
   refine D5p hh hh' hx hx' ?_
   have e1:(A9k n++pr3 [58] r)++x::z=(A9k m++pr3 [58] r')++x'::z':=e
   show 58::((A9k n++pr3 [58] r)++x::z)=58::((A9k m++pr3 [58] r')++x'::z')
   rw [e1]
theorem C9x (l:List (List Int)) (h:∀ r ∈ l,A4b r) (z:List UInt8):∃ c w,pr2 [59] l++109::z=c::w∧(¬ B1u c∧c≠58):=by
 cases l with
 | nil=>exact ⟨109,z,rfl,by unfold B1u;decide⟩
 | cons r l =>
  refine ⟨59,pr3 [] r++pr2 [59] l++109::z,?_,by unfold B1u;decide⟩
  show (pr3 [59] r++pr2 [59] l)++109::z=_
  rw [B6m (h r (List.mem_cons_self ..)).1];rfl
theorem D4y:∀ {l l':List (List Int)} {z z':List UInt8},(∀ r ∈ l,A4b r)→(∀ r ∈ l',A4b r)→pr2 [59] l++109::z=pr2 [59] l'++109::z'→l=l'∧z=z'
 | [],[],z,z',_,_,e=>by injection e with _ e;exact ⟨rfl,e⟩
 | [],r::l',z,z',_,h',e=>by
  have:pr2 [59] (r::l')=59::(pr3 [] r++pr2 [59] l'):=by
   show pr3 [59] r++pr2 [59] l'=_
   rw [B6m (h' r (List.mem_cons_self ..)).1];rfl
  rw [this] at e;injection e with e _;exact absurd e (by decide)
 | r::l,[],z,z',h,_,e=>by
  have:pr2 [59] (r::l)=59::(pr3 [] r++pr2 [59] l):=by
   show pr3 [59] r++pr2 [59] l=_
   rw [B6m (h r (List.mem_cons_self ..)).1];rfl
  rw [this] at e;injection e with e _;exact absurd e (by decide)
 | r::l,r'::l',z,z',h,h',e=>by
  have hr:=h r (List.mem_cons_self ..)
  have hr':=h' r' (List.mem_cons_self ..)
  have t:=fun x hx=>h x (List.mem_cons_of_mem _ hx)
  have t':=fun x hx=>h' x (List.mem_cons_of_mem _ hx)
  have e1:pr3 [] r++(pr2 [59] l++109::z)=pr3 [] r'++(pr2 [59] l'++109::z'):=by
   have e0:(pr3 [59] r++pr2 [59] l)++109::z=(pr3 [59] r'++pr2 [59] l')++109::z':=e
   rw [B6m hr.1,B6m hr'.1] at e0
   have e00:59::((pr3 [] r++pr2 [59] l)++109::z)=59::((pr3 [] r'++pr2 [59] l')++109::z'):=e0
   injection e00 with _ e0
   rwa [List.append_assoc,List.append_assoc] at e0
  obtain ⟨c,w,k1,k2⟩:=C9x l t z
  obtain ⟨c',w',k1',k2'⟩:=C9x l' t' z'
  rw [k1,k1'] at e1
  obtain ⟨i1,i2⟩:=E0z hr hr' k2 k2' e1
  obtain ⟨j1,j2⟩:=D4y (l:=l) (l':=l') (z:=z) (z':=z') t t' (by rw [k1,k1',i2])
  exact ⟨by rw [i1,j1],j2⟩
def E2b:List (Int×Act):=[(0,pA 0 0),(1,pA 1 1),(2,pA 1 2),(3,pA 1 4),(5,pA 1 8),(7,pA 1 16),(8,pA 1 32),(9,pA 1 64),(53,pA 1 128),(22,pA 2 3),(23,pA 2 4),(25,pA 2 8),(27,pA 2 16),(28,pA 2 32),(29,pA 2 64),(55,pA 2 128),(4,pA 3 1),(24,pA 3 0),(39,pC 4 ⟨0,0⟩),(49,pC 5 ⟨0,0⟩),(59,pC 6 ⟨0,0⟩)]
def pd:List Int→Act
 | [x]=>if 30≤x∧x≤37 then pC 4 ⟨1,x - 30⟩ else if 40≤x∧x≤47 then pC 5 ⟨1,x - 40⟩ else if 90≤x∧x≤97 then pC 4 ⟨1,x - 82⟩ else if 100≤x∧x≤107 then pC 5 ⟨1,x - 92⟩ else ((E2b.find? fun e=>decide (e.1=x)).getD (0,Act.zero)).2
 | [_,m]=>pA 3 m
 | [x,_,n]=>pC ((x - 38) / 10+4) ⟨1,n⟩
 | [x,_,_,r,g,b]=>pC ((x - 38) / 10+4) ⟨2,r * 65536+g * 256+b⟩
 | _=>Act.zero
theorem E2z:∀ j<8,pd (G1 (pA 1 (pw8 j)))=pA 1 (pw8 j):=by decide +kernel
theorem E3r:∀ j<8,2≤j→pd (G1 (pA 2 (pw8 j)))=pA 2 (pw8 j):=by decide +kernel
theorem E4f:∀ m<6,pd (G1 (pA 3 ((m:Nat):Int)))=pA 3 ((m:Nat):Int):=by decide +kernel
theorem E4k:∀ n<256,pd (B2n 4 ⟨1,((n:Nat):Int)⟩)=pC 4 ⟨1,((n:Nat):Int)⟩∧pd (B2n 5 ⟨1,((n:Nat):Int)⟩)=pC 5 ⟨1,((n:Nat):Int)⟩∧pd (B2n 6 ⟨1,((n:Nat):Int)⟩)=pC 6 ⟨1,((n:Nat):Int)⟩:=by decide +kernel
theorem D5d {a:Act} (h:B3d a):pd (G1 a)=a:=by
 rcases h with rfl | ⟨j,hj,rfl⟩ | rfl | ⟨j,hj,h2,rfl⟩ | ⟨m,h0,h5,rfl⟩ | ⟨p,c,hp,hc,rfl⟩
 ·decide +kernel
 ·exact E2z j hj
 ·decide +kernel
 ·exact E3r j hj h2
 ·obtain ⟨n,rfl⟩:∃ n:Nat,m=n:=⟨m.toNat,by omega⟩
  exact E4f n (by omega)
 ·rw [C3e p hp c hc]
  obtain ⟨k,x⟩:=c
  rcases C3u hc with ⟨h1,h2⟩ | ⟨h1,h2,h3⟩ | ⟨h1,h2,h3⟩<;>dsimp only at h1 h2<;>subst h1
  ·subst h2;rcases hp with rfl | rfl | rfl<;>decide +kernel
  ·dsimp only at h3
   obtain ⟨n,rfl⟩:∃ n:Nat,x=n:=⟨x.toNat,by omega⟩
   have:=E4k n (by omega)
   rcases hp with rfl | rfl | rfl
   ·exact this.1
   ·exact this.2.1
   ·exact this.2.2
  ·show pC ((A8g p - 38) / 10+4) ⟨2,x / 65536 * 65536+x / 256 % 256 * 256+x % 256⟩=_
   rw [show (A8g p - 38) / 10+4=p by unfold A8g;omega,show x / 65536 * 65536+x / 256 % 256 * 256+x % 256=x by omega]
theorem D1b:∀ {l l':List Act},(∀ a ∈ l,B3d a)→(∀ a ∈ l',B3d a)→l.map G1=l'.map G1→l=l'
 | [],[],_,_,_=>rfl
 | [],_::_,_,_,e=>by cases e
 | _::_,[],_,_,e=>by cases e
 | a::l,b::l',h,h',e=>by
  injection e with e1 e2
  have ha:=D5d (h a (List.mem_cons_self ..))
  rw [e1,D5d (h' b (List.mem_cons_self ..))] at ha
  rw [ha,D1b (fun x hx=>h x (List.mem_cons_of_mem _ hx)) (fun x hx=>h' x (List.mem_cons_of_mem _ hx)) e2]
theorem D2w {a:Act} (hk:a.kind=39) (h:C8 a=true):B3d a:=by
 unfold C8 at h
 rw [decide_eq_true hk,cond_true,decide_eq_true_iff] at h
 exact D5i h
theorem D9s {l l':List Act} {z z':List UInt8} (h:∀ a ∈ l,B3d a) (h':∀ a ∈ l',B3d a) (hl:l≠[]) (hl':l'≠[]) (e:C1h l++z=C1h l'++z'):l=l'∧z=z':=by
 have hr:=B7w (fun a ha=>A6k (h a ha))
 have hr':=B7w (fun a ha=>A6k (h' a ha))
 have ho:∀ (l:List Act) (z:List UInt8),C1h l++z=27::91::(pr2 [] (l.map G1)++109::z):=fun l z=>by
  show (([27,91]++pr2 [] (l.map G1))++[109])++z=_
  rw [List.append_assoc,List.append_assoc];rfl
 rw [ho,ho] at e
 injection e with _ e
 injection e with _ e
 have hp:∀ (l:List Act) (z:List UInt8),l≠[]→(∀ r ∈ l.map G1,A4b r)→59::(pr2 [] (l.map G1)++109::z)=pr2 [59] (l.map G1)++109::z:=fun l z hn hr=>by
  cases l with
  | nil=>exact absurd rfl hn
  | cons a l =>
   rw [List.map_cons] at hr ⊢
   show 59::((pr3 [] (G1 a)++pr2 [59] (l.map G1))++109::z)=(pr3 [59] (G1 a)++pr2 [59] (l.map G1))++109::z
   rw [B6m (hr _ (List.mem_cons_self ..)).1];rfl
 have e2:pr2 [59] (l.map G1)++109::z=pr2 [59] (l'.map G1)++109::z':=by rw [← hp l z hl hr,← hp l' z' hl' hr',e]
 obtain ⟨i1,i2⟩:=D4y hr hr' e2
 exact ⟨D1b h h' i1,i2⟩
end Go.Proofs.YtanighkpfmgnbaaGreatDoor
set_option linter.unusedVariables false
set_option linter.unusedSimpArgs false
set_option maxRecDepth 10000
namespace Go.Proofs.YtanighkpfmgnbaaGreatDoor
open Go Go.Fen
def mkA (k n m:Int):Act:=⟨k,n,m,Col.zero,[]⟩
def B9y:List UInt8→Nat
 | []=>0
 | b::_=>b.toNat
def dcC (l:List UInt8) (f:Nat):Act :=
 if 65≤f∧f≤68 then mkA 20 ((f:Int) - 65) (A4x 1 l)
 else if 69≤f∧f≤70 then mkA 21 ((f:Int) - 69) (A4x 1 l)
 else if 83≤f∧f≤84 then mkA 33 ((f:Int) - 83) (A4x 1 l)
 else if f=71 then mkA 22 (A4x 1 l) 0
 else if f=100 then mkA 23 (A4x 1 l) 0
 else if f=73 then mkA 24 (A4x 1 l) 0
 else if f=90 then mkA 25 (A4x 1 l) 0
 else if f=64 then mkA 28 (A4x 1 l) 0
 else if f=80 then mkA 29 (A4x 1 l) 0
 else if f=88 then mkA 30 (A4x 1 l) 0
 else if f=76 then mkA 31 (A4x 1 l) 0
 else if f=77 then mkA 32 (A4x 1 l) 0
 else if f=98 then mkA 34 (A4x 1 l) 0
 else if f=74 then mkA 26 (A4x 0 l) 0
 else if f=75 then mkA 27 (A4x 0 l) 0
 else if f=103 then mkA 35 (A4x 0 l) 0
 else if f=113 then mkA 40 (A4x 0 l.dropLast) 0
 else if f=72 then mkA 19 (A4x 1 (l.takeWhile fun b=>!(b.toNat == 59))) (A4x 1 ((l.dropWhile fun b=>!(b.toNat == 59)).drop 1))
 else if f=114 then mkA 38 (A4x 0 (l.takeWhile fun b=>!(b.toNat == 59))) (A4x 0 ((l.dropWhile fun b=>!(b.toNat == 59)).drop 1))
 else if f=108 then (if B9y l=63 then mkA 37 (B3a (l.drop 1)) 0 else mkA 36 (B3a l) 0)
 else if f=104 then (if B9y l=63 then mkA 37 (B3a (l.drop 1)) 1 else mkA 36 (B3a l) 1)
 else if f=110 then mkA 41 (B3a l) 0
 else if f=99 then mkA 42 (if B9y l=62 then 1 else 0) 0
 else if f=112 then (if B9y l=63 then mkA 43 (B3a (l.drop 1).dropLast) 1 else mkA 43 (B3a l.dropLast) 0)
 else mkA 39 0 0
def hx (b:UInt8):Int:=if b.toNat<58 then (b.toNat:Int) - 48 else (b.toNat:Int) - 87
def dcX:List UInt8→Int
 | [a,b,_,c,d,_,e,f]=>hx a * 1048576+hx b * 65536+hx c * 4096+hx d * 256+hx e * 16+hx f
 | _=>0
def ix (b:UInt8):Int:=let n:Int:=b.toNat
 if n=43 then 62 else if n=47 then 63 else if n<58 then n+4 else if n<91 then n - 65 else n - 71
def bt (x:Int):UInt8:=UInt8.ofNat x.toNat
def unb:List UInt8→List UInt8
 | x::y::z::w::t=>if z.toNat=61 then [bt (ix x * 4+ix y / 16)] else if w.toNat=61 then [bt (ix x * 4+ix y / 16),bt (ix y % 16 * 16+ix z / 4)] else bt (ix x * 4+ix y / 16)::bt (ix y % 16 * 16+ix z / 4)::bt (ix z % 4 * 64+ix w)::unb t
 | _=>[]
def dcO:List UInt8→Act
 | []=>Act.zero
 | b::l=>if b.toNat=50 then ⟨44,0,0,Col.zero,l.drop 1⟩
  else if b.toNat=52 then ⟨45,B3a ((l.drop 1).takeWhile fun b=>!(b.toNat == 59)),0,⟨2,dcX (((l.drop 1).dropWhile fun b=>!(b.toNat == 59)).drop 5)⟩,[]⟩
  else ⟨46,0,0,Col.zero,unb (l.drop 4)⟩
def C4t (b:UInt8):Bool:=decide (b.toNat<64)
def dcE:List UInt8→Act
 | []=>Act.zero
 | c::t=>if c.toNat=91 then dcC (t.takeWhile C4t) (B9y (t.dropWhile C4t))
  else if c.toNat=93 then dcO (t.takeWhile fun b=>!(b.toNat == 27))
  else if c.toNat=35 then mkA 16 0 0
  else if 40≤c.toNat∧c.toNat≤43 then mkA 17 ((c.toNat:Int) - 40) (if B9y t=66 then 0 else 1)
  else if c.toNat=68 then mkA 8 0 0
  else if c.toNat=69 then mkA 9 0 0
  else if c.toNat=72 then mkA 10 0 0
  else if c.toNat=77 then mkA 11 0 0
  else if c.toNat=55 then mkA 12 0 0
  else if c.toNat=56 then mkA 13 0 0
  else if c.toNat=62 then mkA 14 0 0
  else if c.toNat=61 then mkA 14 1 0
  else if c.toNat=99 then mkA 15 0 0
  else if c.toNat=78 then mkA 18 2 0
  else mkA 18 3 0
def dcU:List UInt8→Int
 | []=>0
 | b::t=>if b.toNat<128 then b.toNat else if b.toNat<224 then ((b.toNat:Int) - 192) * 64+(((t.getD 0 0).toNat:Int) - 128)
  else if b.toNat<240 then ((b.toNat:Int) - 224) * 4096+(((t.getD 0 0).toNat:Int) - 128) * 64+(((t.getD 1 0).toNat:Int) - 128)
  else ((b.toNat:Int) - 240) * 262144+(((t.getD 0 0).toNat:Int) - 128) * 4096+(((t.getD 1 0).toNat:Int) - 128) * 64+(((t.getD 2 0).toNat:Int) - 128)
def dc:List UInt8→Act
 | []=>Act.zero
 | b::t=>if b.toNat=27 then dcE t
  else if b.toNat=7 then mkA 2 0 0
  else if b.toNat=8 then mkA 3 0 0
  else if b.toNat=9 then mkA 4 0 0
  else if b.toNat=10 then mkA 5 0 0
  else if b.toNat=13 then mkA 6 0 0
  else if b.toNat=15 then mkA 7 0 0
  else if b.toNat=14 then mkA 7 1 0
  else mkA 1 (dcU (b::t)) 0
theorem C3l {α:Type} {p:α→Bool} {x:α} {z:List α} (hx:p x=false):∀ {l:List α},(∀ b ∈ l,p b=true)→(l++x::z).takeWhile p=l∧(l++x::z).dropWhile p=x::z
 | [],_=>by simp [hx]
 | b::l,h=>by
  obtain ⟨i1,i2⟩:=C3l (x:=x) (z:=z) hx (fun a ha=>h a (List.mem_cons_of_mem _ ha):∀ b ∈ l,p b=true)
  have hb:=h b (List.mem_cons_self ..)
  exact ⟨by rw [List.cons_append,List.takeWhile_cons_of_pos hb,i1],by rw [List.cons_append,List.dropWhile_cons_of_pos hb,i2]⟩
theorem D2y {α:Type} {p:α→Bool}:∀ {l:List α},(∀ b ∈ l,p b=true)→l.takeWhile p=l∧l.dropWhile p=[]
 | [],_=>⟨rfl,rfl⟩
 | b::l,h=>by
  obtain ⟨i1,i2⟩:=D2y (fun a ha=>h a (List.mem_cons_of_mem _ ha):∀ b ∈ l,p b=true)
  have hb:=h b (List.mem_cons_self ..)
  exact ⟨by rw [List.takeWhile_cons_of_pos hb,i1],by rw [List.dropWhile_cons_of_pos hb,i2]⟩
def B9k (l:List UInt8):Prop:=∀ b ∈ l,b.toNat<64
theorem D3c.low {l:List UInt8} (h:D3c l):B9k l:=fun b hb=>by have:=h b hb;omega
theorem C4q (l:List UInt8) (f:UInt8) (z:List UInt8) (hl:B9k l) (hf:64≤f.toNat):dc (([27,91]++(l++[f]))++z)=dcC l f.toNat:=by
 have e:([27,91]++(l++[f]))++z=27::91::(l++f::z):=by simp
 rw [e]
 show dcC ((l++f::z).takeWhile C4t) (B9y ((l++f::z).dropWhile C4t))=_
 obtain ⟨i1,i2⟩:=C3l (p:=C4t) (x:=f) (z:=z) (by unfold C4t;rw [decide_eq_false (by omega)]) (l:=l) (fun b hb=>by unfold C4t;rw [decide_eq_true (hl b hb)])
 rw [i1,i2];rfl
theorem W5 (k n:Int) (hn:0≤n) (f:UInt8) (z:List UInt8) (hf:64≤f.toNat) (A:Int→Act) (hA:∀ l,dcC l f.toNat=A (A4x k l)):dc (([27,91]++(J3 n k++[f]))++z)=A n:=by
 rw [C4q _ f z (B7h k hn).2.low hf,hA,(B7h k hn).1]
theorem E1j (k n m:Int) (hn:0≤n) (hm:0≤m):A4x k ((A0k n m k).takeWhile fun b=>!(b.toNat == 59))=n∧A4x k (((A0k n m k).dropWhile fun b=>!(b.toNat == 59)).drop 1)=m∧B9k (A0k n m k):=by
 have hs:=B7h k hn
 have hs2:=B7h k hm
 have hd:∀ b ∈ J3 n k,(!(b.toNat == 59))=true:=fun b hb=>by
  have:=hs.2 b hb
  simp;omega
 unfold A0k B9
 by_cases e:m=k
 ·rw [decide_eq_true e,cond_true,(D2y hd).1,(D2y hd).2]
  exact ⟨hs.1,by rw [e];rfl,hs.2.low⟩
 ·rw [decide_eq_false e,cond_false]
  simp only [List.append_assoc]
  obtain ⟨i1,i2⟩:=C3l (p:=fun b:UInt8=>!(b.toNat == 59)) (x:=59) (z:=J3 m k) (by decide) hd
  refine ⟨by rw [show [59]++J3 m k=59::J3 m k from rfl,i1];exact hs.1,by rw [show [59]++J3 m k=59::J3 m k from rfl,i2];exact hs2.1,?_⟩
  intro b hb
  rcases List.mem_append.1 hb with hb | hb
  ·exact hs.2.low b hb
  ·rcases List.mem_append.1 hb with hb | hb
   ·rw [List.mem_singleton.1 hb];decide
   ·exact hs2.2.low b hb
theorem D7p (k n m:Int) (hn:0≤n) (hm:0≤m) (f:UInt8) (z:List UInt8) (hf:64≤f.toNat) (A:Int→Int→Act) (hA:∀ l:List UInt8,dcC l f.toNat=A (A4x k (l.takeWhile fun b=>!(b.toNat == 59))) (A4x k ((l.dropWhile fun b=>!(b.toNat == 59)).drop 1))):dc (([27,91]++(A0k n m k++[f]))++z)=A n m:=by
 obtain ⟨i1,i2,i3⟩:=E1j k n m hn hm
 rw [C4q _ f z i3 hf,hA,i1,i2]
theorem C7z {n:Int} (hn:0≤n):B3a (D5 (n.toNat+1) n)=n∧D3c (D5 (n.toNat+1) n)∧∃ b l,D5 (n.toNat+1) n=b::l∧(48≤b.toNat∧b.toNat≤57):=by
 rw [B7n hn]
 obtain ⟨h1,h2,h3⟩:=A8t hn
 refine ⟨h1,h2,?_⟩
 cases e:Lib.itoa n with
 | nil=>exact absurd e h3
 | cons b l=>exact ⟨b,l,rfl,h2 b (by rw [e];exact List.mem_cons_self ..)⟩
theorem B4v {l l':List UInt8} (h:B9k l) (h':B9k l'):B9k (l++l'):=fun b hb=>(List.mem_append.1 hb).elim (h b) (h' b)
theorem C7q (n:Int) (hn:0≤n) (s:List UInt8) (f:UInt8) (z:List UInt8) (hs:B9k s) (hf:64≤f.toNat) (A:Int→Act) (hA:∀ l:List UInt8,(∃ b t,l=b::t∧(48≤b.toNat∧b.toNat≤57))→dcC (s++l) f.toNat=A (B3a l)):dc (([27,91]++((s++D5 (n.toNat+1) n)++[f]))++z)=A n:=by
 obtain ⟨h1,h2,h3⟩:=C7z hn
 rw [C4q _ f z (B4v hs h2.low) hf,hA _ h3,h1]
theorem D8g (n:Int) (hn:0≤n) (s:List UInt8) (z:List UInt8) (hs:B9k s) (A:Int→Act) (hA:∀ l:List UInt8,(∃ b t,l=b::t∧(48≤b.toNat∧b.toNat≤57))→dcC ((s++l)++[36]) 112=A (B3a l)):dc (([27,91]++((s++D5 (n.toNat+1) n)++[36,112]))++z)=A n:=by
 obtain ⟨h1,h2,h3⟩:=C7z hn
 have e:(s++D5 (n.toNat+1) n)++[36,112]=((s++D5 (n.toNat+1) n)++[36])++[112]:=by simp
 rw [e,C4q _ 112 z (B4v (B4v hs h2.low) (by intro b hb;rw [List.mem_singleton.1 hb];decide)) (by decide)]
 exact (hA _ h3).trans (by rw [h1])
theorem D0z {a:Act} (h:C8 a=true) (h39:a.kind≠39) (h44:a.kind≠44) (h45:a.kind≠45) (h46:a.kind≠46):a=mkA a.kind a.n a.m:=by
 unfold C8 N0 at h
 rw [decide_eq_false h39,decide_eq_false h44,decide_eq_false h45,decide_eq_false h46] at h
 simp only [cond_false,Bool.and_eq_true,decide_eq_true_eq] at h
 exact A3t a _ _ _ _ _ rfl rfl rfl h.1.2 h.2
end Go.Proofs.YtanighkpfmgnbaaGreatDoor
set_option linter.unusedVariables false
set_option linter.unusedSimpArgs false
set_option maxRecDepth 10000
namespace Go.Proofs.YtanighkpfmgnbaaGreatDoor
open Go Go.Fen
theorem C5z (cp:Int) (h:0≤cp∧cp≤1114111):(cp<128∧M9 cp=[by8 cp])∨(128≤cp∧cp<2048∧M9 cp=[by8 (192+cp / 64),by8 (128+cp % 64)])∨(2048≤cp∧cp<65536∧M9 cp=[by8 (224+cp / 64 / 64),by8 (128+cp / 64 % 64),by8 (128+cp % 64)])
  ∨ (65536≤cp∧M9 cp=[by8 (240+cp / 64 / 64 / 64),by8 (128+cp / 64 / 64 % 64),by8 (128+cp / 64 % 64),by8 (128+cp % 64)]):=by
 unfold M9
 by_cases h1:cp<128
 ·refine .inl ⟨h1,?_⟩
  rw [show C3 cp=1 by unfold C3;rw [decide_eq_true h1];rfl]
  show [by8 (IntKind.u8.wrap cp)]=_
  rw [uw (by omega) (by omega)]
 ·by_cases h2:cp<2048
  ·refine .inr (.inl ⟨by omega,h2,?_⟩)
   have hs:C3 cp=2:=by unfold C3;rw [decide_eq_false h1,decide_eq_true h2];rfl
   rw [hs,show decide ((2:Int)=1)=false from rfl,cond_false]
   refine (A0j cp 1 cp [0,0] 1 (by decide) h).trans ((B1p ..).trans ?_)
   rw [hs];rw [show ([0,0,192,224,240]:List Int).getD (2:Int).toNat 0=192 from rfl,uw (by omega) (by omega)];rfl
  ·by_cases h3:cp<65536
   ·refine .inr (.inr (.inl ⟨by omega,h3,?_⟩))
    have hs:C3 cp=3:=by unfold C3;rw [decide_eq_false h1,decide_eq_false h2,decide_eq_true h3];rfl
    rw [hs,show decide ((3:Int)=1)=false from rfl,cond_false]
    refine (A0j cp 2 cp [0,0,0] 2 (by decide) h).trans ((A0j cp 1 _ _ 1 (by decide) (by omega)).trans ((B1p ..).trans ?_))
    rw [hs];rw [show ([0,0,192,224,240]:List Int).getD (3:Int).toNat 0=224 from rfl,uw (by omega) (by omega)];rfl
   ·refine .inr (.inr (.inr ⟨by omega,?_⟩))
    have hs:C3 cp=4:=by unfold C3;rw [decide_eq_false h1,decide_eq_false h2,decide_eq_false h3];rfl
    rw [hs,show decide ((4:Int)=1)=false from rfl,cond_false]
    refine (A0j cp 3 cp [0,0,0,0] 3 (by decide) h).trans ((A0j cp 2 _ _ 2 (by decide) (by omega)).trans ((A0j cp 1 _ _ 1 (by decide) (by omega)).trans ((B1p ..).trans ?_)))
    rw [hs];rw [show ([0,0,192,224,240]:List Int).getD (4:Int).toNat 0=240 from rfl,uw (by omega) (by omega)];rfl
theorem C9z {cp:Int} (h:J4 cp=true):0≤cp∧cp≤1114111:=by
 unfold J4 at h;simp only [Bool.and_eq_true,decide_eq_true_eq] at h;omega
theorem D5b {cp:Int} (h:J4 cp=true):U6 cp=M9 cp:=by
 unfold U6;rw [h];rfl
theorem E2d {cp:Int} (h:J4 cp=false):U6 cp=M9 65533:=by
 unfold U6;rw [h];rfl
theorem E4r {n:Int} (h:0≤A3j n):J4 n=true∧32≤n∧(n<127∨160≤n):=by
 unfold A3j at h
 cases hc:J4 n with
 | false=>rw [hc] at h;exact absurd (show (0:Int)≤-1 from h) (by decide)
 | true =>
  rw [hc] at h
  refine ⟨rfl,?_⟩
  by_cases hb:(decide (n<32)||(decide (127≤n)&&decide (n<160)))=true
  ·rw [Bool.not_true,Bool.false_or,hb] at h;exact absurd (show (0:Int)≤-1 from h) (by decide)
  ·simp only [Bool.or_eq_true,Bool.and_eq_true,decide_eq_true_eq] at hb;omega
theorem E1y {n:Int} (hc:J4 n=true) (z:List UInt8):dcU (U6 n++z)=n∧∃ b t,U6 n=b::t∧((b.toNat:Int)=n∨128≤b.toNat):=by
 have h:=C9z hc
 rw [D5b hc]
 rcases C5z n h with ⟨h1,e⟩ | ⟨h1,h2,e⟩ | ⟨h1,h2,e⟩ | ⟨h1,e⟩<;>rw [e]
 ·have e1:=B3f (m:=n) (by omega)
  refine ⟨?_,_,_,rfl,.inl e1⟩
  show (if (by8 n).toNat<128 then _ else _)=_
  rw [if_pos (by omega)];exact e1
 ·have e1:=B3f (m:=192+n / 64) (by omega)
  have e2:=B3f (m:=128+n % 64) (by omega)
  refine ⟨?_,_,_,rfl,.inr (by omega)⟩
  show (if (by8 (192+n / 64)).toNat<128 then _ else if (by8 (192+n / 64)).toNat<224 then (((by8 (192+n / 64)).toNat:Int) - 192) * 64+(((by8 (128+n % 64)).toNat:Int) - 128) else _)=_
  rw [if_neg (by omega),if_pos (by omega)];omega
 ·have e1:=B3f (m:=224+n / 64 / 64) (by omega)
  have e2:=B3f (m:=128+n / 64 % 64) (by omega)
  have e3:=B3f (m:=128+n % 64) (by omega)
  refine ⟨?_,_,_,rfl,.inr (by omega)⟩
  show (if (by8 (224+n / 64 / 64)).toNat<128 then _ else if (by8 (224+n / 64 / 64)).toNat<224 then _ else if (by8 (224+n / 64 / 64)).toNat<240 then (((by8 (224+n / 64 / 64)).toNat:Int) - 224) * 4096+(((by8 (128+n / 64 % 64)).toNat:Int) - 128) * 64+(((by8 (128+n % 64)).toNat:Int) - 128) else _)=_
  rw [if_neg (by omega),if_neg (by omega),if_pos (by omega)];omega
 ·have e1:=B3f (m:=240+n / 64 / 64 / 64) (by omega)
  have e2:=B3f (m:=128+n / 64 / 64 % 64) (by omega)
  have e3:=B3f (m:=128+n / 64 % 64) (by omega)
  have e4:=B3f (m:=128+n % 64) (by omega)
  refine ⟨?_,_,_,rfl,.inr (by omega)⟩
  show (if (by8 (240+n / 64 / 64 / 64)).toNat<128 then _ else if (by8 (240+n / 64 / 64 / 64)).toNat<224 then _ else if (by8 (240+n / 64 / 64 / 64)).toNat<240 then _ else (((by8 (240+n / 64 / 64 / 64)).toNat:Int) - 240) * 262144+(((by8 (128+n / 64 / 64 % 64)).toNat:Int) - 128) * 4096+(((by8 (128+n / 64 % 64)).toNat:Int) - 128) * 64+(((by8 (128+n % 64)).toNat:Int) - 128))=_
  rw [if_neg (by omega),if_neg (by omega),if_neg (by omega)];omega
theorem E5c {n:Int} (h:0≤A3j n) (z:List UInt8):dc (U6 n++z)=mkA 1 n 0:=by
 obtain ⟨hc,h32,h160⟩:=E4r h
 obtain ⟨hu,b,t,e,hb⟩:=E1y hc z
 rw [e] at hu ⊢
 have hb2:32≤b.toNat:=by omega
 show (if b.toNat=27 then _ else _)=_
 rw [if_neg (by omega),if_neg (by omega),if_neg (by omega),if_neg (by omega),if_neg (by omega),if_neg (by omega),if_neg (by omega),if_neg (by omega)]
 exact congrArg (mkA 1 · 0) hu
def B9v (l:List UInt8):Prop:=∀ b ∈ l,(!(b.toNat == 27))=true
theorem A8r {l l':List UInt8} (h:B9v l) (h':B9v l'):B9v (l++l'):=fun b hb=>(List.mem_append.1 hb).elim (h b) (h' b)
theorem C2a {m:Int} (h:32≤m∧m≤255):(!((by8 m).toNat == 27))=true:=by
 have:=B3f (m:=m) (by omega)
 simp;omega
theorem D5f {cp:Int} (h:32≤cp∧cp≤1114111):B9v (M9 cp):=by
 intro b hb
 rcases C5z cp (by omega) with ⟨h1,e⟩ | ⟨h1,h2,e⟩ | ⟨h1,h2,e⟩ | ⟨h1,e⟩<;>rw [e] at hb<;>simp only [List.mem_cons,List.not_mem_nil,or_false] at hb
 ·subst hb;exact C2a (by omega)
 ·rcases hb with rfl | rfl<;>exact C2a (by omega)
 ·rcases hb with rfl | rfl | rfl<;>exact C2a (by omega)
 ·rcases hb with rfl | rfl | rfl | rfl<;>exact C2a (by omega)
theorem D8v {cp:Int} (h:tOk cp=true):B9v (U6 cp):=by
 cases hc:J4 cp with
 | false=>rw [E2d hc];exact D5f (by decide)
 | true =>
  rw [D5b hc]
  have:=C9z hc
  unfold tOk at h;simp only [Bool.and_eq_true,decide_eq_true_eq] at h
  exact D5f (by omega)
theorem C6u:∀ (l:List Int) (b:List UInt8) (i:Nat),l.all tOk=true→B9v b→B9v (X0 l b i)
 | [],b,i,_,h=>h
 | x::l,b,i,hl,h=>by
  rw [List.all_cons,Bool.and_eq_true] at hl
  simp only [X0,B9,G3]
  exact C6u l _ _ hl.2 (A8r h (D8v hl.1))
theorem D3a {t:List UInt8} (h:O7 t=true):B9v t:=by
 unfold O7 at h
 simp only [B9] at h
 by_cases hl:¬ (510:Int)<(t.length:Int)
 ·rw [decide_eq_false hl] at h
  have h2:Z8 t ((Y7 t).length+1) (Y7 t) 0=true:=h
  rw [B9p t _ _ 0 (by omega) (Nat.zero_le _),List.drop_zero,Bool.and_eq_true,decide_eq_true_iff] at h2
  rw [← h2.2]
  exact C6u _ _ _ h2.1 (fun b hb=>by cases hb)
 ·rw [decide_eq_true (Decidable.of_not_not hl)] at h;exact absurd (show false=true from h) (by decide)
theorem D3j {l:List UInt8} (h:B9v l) (z:List UInt8):dc (((([27,93]++l)++[27])++[92])++z)=dcO l:=by
 have e:((([27,93]++l)++[27])++[92])++z=27::93::(l++27::92::z):=by simp
 rw [e]
 show dcO ((l++27::92::z).takeWhile fun b=>!(b.toNat == 27))=_
 rw [(C3l (p:=fun b:UInt8=>!(b.toNat == 27)) (x:=27) (z:=92::z) (by decide) h).1]
theorem ixS:∀ n<64,ix (A3w ((n:Nat):Int))=n∧(A3w ((n:Nat):Int)).toNat≠61∧(!((A3w ((n:Nat):Int)).toNat == 27))=true:=by decide +kernel
theorem ixI {n:Int} (h:0≤n∧n<64):ix (A3w n)=n∧(A3w n).toNat≠61∧(!((A3w n).toNat == 27))=true:=by
 obtain ⟨m,rfl⟩:∃ m:Nat,n=m:=⟨n.toNat,by omega⟩
 exact ixS m (by omega)
theorem btI {x:Int} {b:UInt8} (h:x=(b.toNat:Int)):bt x=b:=by
 subst h;unfold bt;rw [Int.toNat_natCast];exact UInt8.ofNat_toNat
theorem D0i:∀ s:List UInt8,unb (bare s++List.replicate ((4 - (bare s).length % 4) % 4) 61)=s
 | a::b::c::t=>by
  have ih:=D0i t
  have ha:=u8r a
  have hb:=u8r b
  have hc:=u8r c
  have e:(bare (a::b::c::t)).length % 4=(bare t).length % 4:=by rw [bare];simp only [List.length_cons];omega
  rw [e,bare]
  obtain ⟨x1,_,_⟩:=ixI (n:=(a.toNat:Int) / 4) (by omega)
  obtain ⟨y1,_,_⟩:=ixI (n:=(a.toNat:Int) % 4 * 16+(b.toNat:Int) / 16) (by omega)
  obtain ⟨z1,z2,_⟩:=ixI (n:=(b.toNat:Int) % 16 * 4+(c.toNat:Int) / 64) (by omega)
  obtain ⟨w1,w2,_⟩:=ixI (n:=(c.toNat:Int) % 64) (by omega)
  simp only [List.cons_append]
  rw [unb,if_neg z2,if_neg w2,ih,x1,y1,z1,w1,btI (b:=a) (by omega),btI (b:=b) (by omega),btI (b:=c) (by omega)]
 | [a,b]=>by
  have ha:=u8r a
  have hb:=u8r b
  obtain ⟨x1,_,_⟩:=ixI (n:=(a.toNat:Int) / 4) (by omega)
  obtain ⟨y1,_,_⟩:=ixI (n:=(a.toNat:Int) % 4 * 16+(b.toNat:Int) / 16) (by omega)
  obtain ⟨z1,z2,_⟩:=ixI (n:=(b.toNat:Int) % 16 * 4) (by omega)
  show unb [A3w ((a.toNat:Int) / 4),A3w ((a.toNat:Int) % 4 * 16+(b.toNat:Int) / 16),A3w ((b.toNat:Int) % 16 * 4),61]=_
  rw [unb,if_neg z2,if_pos (by decide),x1,y1,z1,btI (b:=a) (by omega),btI (b:=b) (by omega)]
 | [a]=>by
  have ha:=u8r a
  obtain ⟨x1,_,_⟩:=ixI (n:=(a.toNat:Int) / 4) (by omega)
  obtain ⟨y1,_,_⟩:=ixI (n:=(a.toNat:Int) % 4 * 16) (by omega)
  show unb [A3w ((a.toNat:Int) / 4),A3w ((a.toNat:Int) % 4 * 16),61,61]=_
  rw [unb,if_pos (by decide),x1,y1,btI (b:=a) (by omega)]
 | []=>rfl
theorem C6b:∀ s:List UInt8,B9v (bare s)
 | a::b::c::t=>by
  have ih:=C6b t
  have ha:=u8r a
  have hb:=u8r b
  have hc:=u8r c
  intro x hx
  rw [bare] at hx
  simp only [List.mem_cons] at hx
  rcases hx with rfl | rfl | rfl | rfl | hx
  ·exact (ixI (by omega)).2.2
  ·exact (ixI (by omega)).2.2
  ·exact (ixI (by omega)).2.2
  ·exact (ixI (by omega)).2.2
  ·exact ih x hx
 | [a,b]=>by
  have ha:=u8r a
  have hb:=u8r b
  intro x hx
  simp only [bare,List.mem_cons,List.not_mem_nil,or_false] at hx
  rcases hx with rfl | rfl | rfl<;>exact (ixI (by omega)).2.2
 | [a]=>by
  have ha:=u8r a
  intro x hx
  simp only [bare,List.mem_cons,List.not_mem_nil,or_false] at hx
  rcases hx with rfl | rfl<;>exact (ixI (by omega)).2.2
 | []=>fun b hb=>by cases hb
theorem hxS:∀ d<16,hx (B3e ((d:Nat):Int))=d∧(!((B3e ((d:Nat):Int)).toNat == 27))=true:=by decide +kernel
theorem hxI {n:Int} (h:0≤n∧n<16):hx (B3e n)=n∧(!((B3e n).toNat == 27))=true:=by
 obtain ⟨m,rfl⟩:∃ m:Nat,n=m:=⟨n.toNat,by omega⟩
 exact hxS m (by omega)
theorem D1a {x:Int} (h:0≤x∧x≤16777215):(K9 ⟨2,x⟩).1=[114,103,98,58,B3e (x / 1048576 % 16),B3e (x / 65536 % 16),47,B3e (x / 4096 % 16),B3e (x / 256 % 16),47,B3e (x / 16 % 16),B3e (x / 1 % 16)]:=by
 have hk:=C8f h.1 h.2
 have h':=hk
 rw [A5g] at h'
 have hrgb':A1j ⟨2,x⟩=(x,true):=by
  unfold A1j;rw [h'];rfl
 unfold K9 B9
 rw [h',hrgb']
 show (O6 (x,true) 7 [] 0).1=_
 rw [A4e _ _ _ _ (by omega) h.1,A4e _ _ _ _ (by omega) h.1,A4e _ _ _ _ (by omega) h.1,A4e _ _ _ _ (by omega) h.1,A4e _ _ _ _ (by omega) h.1,A4e _ _ _ _ (by omega) h.1,O6]
 rfl
end Go.Proofs.YtanighkpfmgnbaaGreatDoor
set_option linter.unusedVariables false
set_option linter.unusedSimpArgs false
set_option maxRecDepth 10000
namespace Go.Proofs.YtanighkpfmgnbaaGreatDoor
open Go Go.Fen
theorem E1s {t:List UInt8} (h:(D8 ⟨44,0,0,Col.zero,t⟩).2=0):(D8 ⟨44,0,0,Col.zero,t⟩).1=[50,59]++t∧O7 t=true:=by
 have e:decide ((⟨44,0,0,Col.zero,t⟩:Act)={Act.zero with kind:=44,text:=t})=true:=decide_eq_true rfl
 have hB:decide ((⟨44,0,0,Col.zero,t⟩:Act)={Act.zero with kind:=45,n:=0,color:=Col.zero})=false:=decide_eq_false (fun h=>by injection h with h;exact absurd h (by decide))
 have hC:decide ((⟨44,0,0,Col.zero,t⟩:Act)={Act.zero with kind:=46,text:=t})=false:=decide_eq_false (fun h=>by injection h with h;exact absurd h (by decide))
 unfold D8 B9 at h ⊢
 simp only [e,hB,hC,Bool.true_and,Bool.false_and,cond_false] at h ⊢
 cases ht:O7 t with
 | true=>exact ⟨rfl,rfl⟩
 | false=>rw [ht] at h;exact absurd (show (2:Int)=0 from h) (by decide)
theorem E1m {n:Int} {c:Col} (h:(D8 ⟨45,n,0,c,[]⟩).2=0):(D8 ⟨45,n,0,c,[]⟩).1=(([52,59]++D5 (n.toNat+1) n)++[59])++(K9 c).1∧0≤n∧c.kind=2∧(K9 c).2=0:=by
 have e4:decide ((⟨45,n,0,c,[]⟩:Act)={Act.zero with kind:=44,text:=[]})=false:=decide_eq_false (fun h=>by injection h with h;exact absurd h (by decide))
 have e45:decide ((⟨45,n,0,c,[]⟩:Act)={Act.zero with kind:=45,n:=n,color:=c})=true:=decide_eq_true rfl
 have hC:decide ((⟨45,n,0,c,[]⟩:Act)={Act.zero with kind:=46,text:=[]})=false:=decide_eq_false (fun h=>by injection h with h;exact absurd h (by decide))
 unfold D8 B9 at h ⊢
 simp only [e4,e45,hC,Bool.false_and,Bool.true_and,cond_false] at h ⊢
 by_cases h0:0≤n
 ·by_cases h255:n≤255
  ·by_cases hk:c.kind=2
   ·by_cases ht:(K9 c).2=0
    ·refine ⟨?_,h0,hk,ht⟩
     simp only [decide_eq_true h0,decide_eq_true h255,decide_eq_true hk,decide_eq_true ht,Bool.and_self,cond_true]
    ·simp only [decide_eq_true h0,decide_eq_true h255,decide_eq_true hk,decide_eq_false ht,Bool.and_self,cond_true,cond_false] at h;exact absurd h (by decide)
   ·simp only [decide_eq_false hk,Bool.and_false,cond_false] at h;exact absurd h (by decide)
  ·simp only [decide_eq_false h255,Bool.and_false,Bool.false_and,cond_false] at h;exact absurd h (by decide)
 ·simp only [decide_eq_false h0,Bool.and_false,Bool.false_and,cond_false] at h;exact absurd h (by decide)
theorem E2h {t:List UInt8} (h:(D8 ⟨46,0,0,Col.zero,t⟩).2=0):(D8 ⟨46,0,0,Col.zero,t⟩).1=[53,50,59,99,59]++(A0t t).1∧(t.length:Int)≤378:=by
 have hA:decide ((⟨46,0,0,Col.zero,t⟩:Act)={Act.zero with kind:=44,text:=t})=false:=decide_eq_false (fun h=>by injection h with h;exact absurd h (by decide))
 have hB:decide ((⟨46,0,0,Col.zero,t⟩:Act)={Act.zero with kind:=45,n:=0,color:=Col.zero})=false:=decide_eq_false (fun h=>by injection h with h;exact absurd h (by decide))
 have e:decide ((⟨46,0,0,Col.zero,t⟩:Act)={Act.zero with kind:=46,text:=t})=true:=decide_eq_true rfl
 unfold D8 B9 at h ⊢
 simp only [e,hA,hB,Bool.true_and,Bool.false_and,cond_false] at h ⊢
 by_cases ht:(t.length:Int)≤378
 ·rw [decide_eq_true ht];exact ⟨rfl,ht⟩
 ·rw [decide_eq_false ht] at h;exact absurd (show (2:Int)=0 from h) (by decide)
theorem B7z (l:List UInt8) (h:l.all (fun b=>decide (b.toNat<64))=true):B9k l:=fun b hb=>of_decide_eq_true (List.all_eq_true.1 h b hb)
theorem D9z {l:List UInt8} (h:D3c l):B9v l:=fun b hb=>by have:=h b hb;simp;omega
theorem B8c (l:List UInt8) (h:l.all (fun b=>!(b.toNat == 27))=true):B9v l:=fun b hb=>List.all_eq_true.1 h b hb
theorem E7n {t:List UInt8} (h:(D8 ⟨44,0,0,Col.zero,t⟩).2=0) (z:List UInt8):dc (A0m ⟨44,0,0,Col.zero,t⟩++z)=⟨44,0,0,Col.zero,t⟩:=by
 obtain ⟨e,ht⟩:=E1s h
 show dc (((([27,93]++(D8 ⟨44,0,0,Col.zero,t⟩).1)++[27])++[92])++z)=_
 rw [e,D3j (A8r (B8c _ (by decide)) (D3a ht))];rfl
theorem E6r {n:Int} {c:Col} (h:(D8 ⟨45,n,0,c,[]⟩).2=0) (z:List UInt8):dc (A0m ⟨45,n,0,c,[]⟩++z)=⟨45,n,0,c,[]⟩:=by
 obtain ⟨e,h0,hk,ht⟩:=E1m h
 obtain ⟨k,x⟩:=c
 dsimp only at hk
 subst hk
 have hc:F6 ⟨2,x⟩=0:=by
  rw [A5g]
  by_cases hz:I2 ⟨2,x⟩=0
  ·exact hz
  ·exfalso;unfold K9 at ht;rw [decide_eq_false hz] at ht;exact absurd (show (130:Int)=0 from ht) (by decide)
 have hxx:0≤x∧x≤16777215:=by
  rcases C3u hc with ⟨h1,_⟩ | ⟨h1,_⟩ | ⟨_,h1⟩
  ·exact absurd (show (2:Int)=0 from h1) (by decide)
  ·exact absurd (show (2:Int)=1 from h1) (by decide)
  ·exact h1
 obtain ⟨v1,v2,v3⟩:=C7z h0
 have hd:∀ b ∈ D5 (n.toNat+1) n,(!(b.toNat == 59))=true:=fun b hb=>by
  have:=v2 b hb
  simp;omega
 show dc (((([27,93]++(D8 ⟨45,n,0,⟨2,x⟩,[]⟩).1)++[27])++[92])++z)=_
 have g:B9v (K9 ⟨2,x⟩).1:=by
  rw [D1a hxx]
  intro b hb
  simp only [List.mem_cons,List.not_mem_nil,or_false] at hb
  rcases hb with rfl|rfl|rfl|rfl|rfl|rfl|rfl|rfl|rfl|rfl|rfl|rfl<;>first|rfl|exact (hxI (by omega)).2
 rw [e,D3j (A8r (A8r (A8r (B8c _ (by decide)) (D9z v2)) (B8c _ (by decide))) g)]
 have e2:(([52,59]++D5 (n.toNat+1) n)++[59])++(K9 ⟨2,x⟩).1=52::59::(D5 (n.toNat+1) n++59::(K9 ⟨2,x⟩).1):=by simp
 rw [e2]
 obtain ⟨i1,i2⟩:=C3l (p:=fun b:UInt8=>!(b.toNat == 59)) (x:=59) (z:=(K9 ⟨2,x⟩).1) (by decide) hd
 show (⟨45,B3a ((D5 (n.toNat+1) n++59::(K9 ⟨2,x⟩).1).takeWhile fun b=>!(b.toNat == 59)),0,⟨2,dcX (((D5 (n.toNat+1) n++59::(K9 ⟨2,x⟩).1).dropWhile fun b=>!(b.toNat == 59)).drop 5)⟩,[]⟩:Act)=_
 rw [i1,i2,v1,D1a hxx]
 show (⟨45,n,0,⟨2,hx _ * 1048576+hx _ * 65536+hx _ * 4096+hx _ * 256+hx _ * 16+hx _⟩,[]⟩:Act)=_
 rw [(hxI (n:=x / 1048576 % 16) (by omega)).1,(hxI (n:=x / 65536 % 16) (by omega)).1,(hxI (n:=x / 4096 % 16) (by omega)).1,(hxI (n:=x / 256 % 16) (by omega)).1,(hxI (n:=x / 16 % 16) (by omega)).1,(hxI (n:=x / 1 % 16) (by omega)).1]
 rw [show x / 1048576 % 16 * 1048576+x / 65536 % 16 * 65536+x / 4096 % 16 * 4096+x / 256 % 16 * 256+x / 16 % 16 * 16+x / 1 % 16=x by omega]
theorem E5x {t:List UInt8} (h:(D8 ⟨46,0,0,Col.zero,t⟩).2=0) (z:List UInt8):dc (A0m ⟨46,0,0,Col.zero,t⟩++z)=⟨46,0,0,Col.zero,t⟩:=by
 obtain ⟨e,ht⟩:=E2h h
 show dc (((([27,93]++(D8 ⟨46,0,0,Col.zero,t⟩).1)++[27])++[92])++z)=_
 rw [e,← D8e (by omega),B8s (by omega)]
 rw [D3j (A8r (B8c _ (by decide)) (A8r (C6b t) (fun b hb=>by rw [(List.mem_replicate.1 hb).2];rfl)))]
 show (⟨46,0,0,Col.zero,unb (bare t++List.replicate ((4 - (bare t).length % 4) % 4) 61)⟩:Act)=_
 rw [D0i]
set_option maxHeartbeats 4000000 in
theorem E3w {a:Act} (h:C8 a=true) (h39:a.kind≠39) (z:List UInt8):dc (A0m a++z)=a:=by
 by_cases h4:a.kind=44∨a.kind=45∨a.kind=46
 ·have h8:(D8 a).2=0:=by
   unfold C8 N0 B9 at h
   rw [decide_eq_false h39,cond_false] at h
   rcases h4 with e | e | e<;>rw [e] at h<;>exact of_decide_eq_true h
  rcases C9t h8 with e | e | e<;>rw [e] at h8 ⊢
  ·exact E7n h8 z
  ·exact E6r h8 z
  ·exact E5x h8 z
 have h44:a.kind≠44:=fun e=>h4 (.inl e)
 have h45:a.kind≠45:=fun e=>h4 (.inr (.inl e))
 have h46:a.kind≠46:=fun e=>h4 (.inr (.inr e))
 have hp:=D0z h h39 h44 h45 h46
 by_cases h1:a.kind=1
 ·have hr:=h
  unfold C8 N0 at hr
  rw [decide_eq_false h39,decide_eq_false h44,decide_eq_false h45,decide_eq_false h46] at hr
  simp only [cond_false,Bool.and_eq_true] at hr
  have hn:=hr.1.1
  unfold L8 at hn
  rw [decide_eq_true h1,cond_true] at hn
  simp only [Bool.and_eq_true,decide_eq_true_eq] at hn
  rw [h1,hn.2] at hp
  rw [hp]
  exact E5c hn.1 z
 obtain ⟨hN,hn⟩:=D4u h h1 h39 h44 h45 h46
 rw [← C8l h1 hN] at hn
 rw [hp]
 clear h h1 h39 h44 h45 h46 h4 hp
 obtain ⟨k,n,m,c,t⟩:=a
 simp only [C5l,List.contains_cons,List.contains_nil,Bool.or_false,Bool.or_eq_true,beq_iff_eq] at hN
 dsimp only at hn ⊢
 rcases hN with h | h | h | h | h | h | h | h | h | h | h | h | h | h | h | h | h | h | h | h | h | h | h | h | h | h | h | h | h | h | h | h | h | h | h | h | h | h | h | h | h<;>subst h <;>
  simp only [D7,F7,Int.reduceEq,decide_true,decide_false,cond_true,cond_false,C4n,W4,Bool.and_eq_true,Bool.or_eq_true,decide_eq_true_eq] at hn
 ·obtain e | e | e | e:n=0∨n=1∨n=2∨n=3:=by omega
  all_goals (obtain e2 | e2:m=0∨m=1:=by omega)<;>subst e<;>subst e2<;>rfl
 ·obtain rfl:m=0:=by omega
  obtain e | e:n=2∨n=3:=by omega
  all_goals subst e;rfl
 ·exact D7p 1 n m (by omega) (by omega) 72 z (by decide) (fun a b=>mkA 19 a b) (fun l=>rfl)
 ·obtain e | e | e | e:n=0∨n=1∨n=2∨n=3:=by omega
  ·subst e;exact W5 1 m (by omega) 65 z (by decide) (fun x=>mkA 20 0 x) (fun l=>rfl)
  ·subst e;exact W5 1 m (by omega) 66 z (by decide) (fun x=>mkA 20 1 x) (fun l=>rfl)
  ·subst e;exact W5 1 m (by omega) 67 z (by decide) (fun x=>mkA 20 2 x) (fun l=>rfl)
  ·subst e;exact W5 1 m (by omega) 68 z (by decide) (fun x=>mkA 20 3 x) (fun l=>rfl)
 ·obtain rfl:m=0:=by omega
  exact W5 0 n (by omega) 74 z (by decide) (fun x=>mkA 26 x 0) (fun l=>rfl)
 ·obtain rfl:m=0:=by omega
  exact W5 0 n (by omega) 75 z (by decide) (fun x=>mkA 27 x 0) (fun l=>rfl)
 ·obtain rfl:m=0:=by omega
  exact W5 0 n (by omega) 103 z (by decide) (fun x=>mkA 35 x 0) (fun l=>rfl)
 ·exact D7p 0 n m (by omega) (by omega) 114 z (by decide) (fun a b=>mkA 38 a b) (fun l=>rfl)
 ·obtain rfl:m=0:=by omega
  obtain e | e | e | e | e | e | e:n=0∨n=1∨n=2∨n=3∨n=4∨n=5∨n=6:=by omega
  all_goals subst e;rfl
 ·obtain rfl:m=0:=by omega
  obtain e | e:n=5∨n=6:=by omega
  all_goals subst e;rfl
 ·obtain ⟨rfl,rfl⟩:n=0∧m=0:=by omega
  rfl
 ·obtain ⟨rfl,rfl⟩:n=0∧m=0:=by omega
  rfl
 ·obtain ⟨rfl,rfl⟩:n=0∧m=0:=by omega
  rfl
 ·obtain ⟨rfl,rfl⟩:n=0∧m=0:=by omega
  rfl
 ·obtain ⟨rfl,rfl⟩:n=0∧m=0:=by omega
  rfl
 ·obtain ⟨rfl,rfl⟩:n=0∧m=0:=by omega
  rfl
 ·obtain ⟨rfl,rfl⟩:n=0∧m=0:=by omega
  rfl
 ·obtain ⟨rfl,rfl⟩:n=0∧m=0:=by omega
  rfl
 ·obtain ⟨rfl,rfl⟩:n=0∧m=0:=by omega
  rfl
 ·obtain ⟨rfl,rfl⟩:n=0∧m=0:=by omega
  rfl
 ·obtain ⟨rfl,rfl⟩:n=0∧m=0:=by omega
  rfl
 ·obtain ⟨rfl,rfl⟩:n=0∧m=0:=by omega
  rfl
 ·obtain ⟨rfl,rfl⟩:n=0∧m=0:=by omega
  rfl
 ·obtain rfl:m=0:=by omega
  obtain e | e:n=0∨n=1:=by omega
  all_goals subst e;rfl
 ·obtain rfl:m=0:=by omega
  obtain e | e:n=0∨n=1:=by omega
  all_goals subst e;rfl
 ·obtain rfl:m=0:=by omega
  obtain e | e:n=0∨n=1:=by omega
  all_goals subst e;rfl
 ·obtain e | e:n=0∨n=1:=by omega
  ·subst e;exact W5 1 m (by omega) 69 z (by decide) (fun x=>mkA 21 0 x) (fun l=>rfl)
  ·subst e;exact W5 1 m (by omega) 70 z (by decide) (fun x=>mkA 21 1 x) (fun l=>rfl)
 ·obtain e | e:n=0∨n=1:=by omega
  ·subst e;exact W5 1 m (by omega) 83 z (by decide) (fun x=>mkA 33 0 x) (fun l=>rfl)
  ·subst e;exact W5 1 m (by omega) 84 z (by decide) (fun x=>mkA 33 1 x) (fun l=>rfl)
 ·obtain rfl:m=0:=by omega
  exact W5 1 n (by omega) 71 z (by decide) (fun x=>mkA 22 x 0) (fun l=>rfl)
 ·obtain rfl:m=0:=by omega
  exact W5 1 n (by omega) 100 z (by decide) (fun x=>mkA 23 x 0) (fun l=>rfl)
 ·obtain rfl:m=0:=by omega
  exact W5 1 n (by omega) 73 z (by decide) (fun x=>mkA 24 x 0) (fun l=>rfl)
 ·obtain rfl:m=0:=by omega
  exact W5 1 n (by omega) 90 z (by decide) (fun x=>mkA 25 x 0) (fun l=>rfl)
 ·obtain rfl:m=0:=by omega
  exact W5 1 n (by omega) 64 z (by decide) (fun x=>mkA 28 x 0) (fun l=>rfl)
 ·obtain rfl:m=0:=by omega
  exact W5 1 n (by omega) 80 z (by decide) (fun x=>mkA 29 x 0) (fun l=>rfl)
 ·obtain rfl:m=0:=by omega
  exact W5 1 n (by omega) 88 z (by decide) (fun x=>mkA 30 x 0) (fun l=>rfl)
 ·obtain rfl:m=0:=by omega
  exact W5 1 n (by omega) 76 z (by decide) (fun x=>mkA 31 x 0) (fun l=>rfl)
 ·obtain rfl:m=0:=by omega
  exact W5 1 n (by omega) 77 z (by decide) (fun x=>mkA 32 x 0) (fun l=>rfl)
 ·obtain rfl:m=0:=by omega
  exact W5 1 n (by omega) 98 z (by decide) (fun x=>mkA 34 x 0) (fun l=>rfl)
 ·have hA:∀ l:List UInt8,(∃ b t,l=b::t∧(48≤b.toNat∧b.toNat≤57))→B9y l≠63:=fun l ⟨b,t,e,hb⟩=>by subst e;show b.toNat≠63;omega
  obtain e | e:m=0∨m=1:=by omega
  ·subst e;exact C7q n (by omega) [] 108 z (fun b hb=>by cases hb) (by decide) (fun x=>mkA 36 x 0) (fun l hl=>if_neg (hA l hl))
  ·subst e;exact C7q n (by omega) [] 104 z (fun b hb=>by cases hb) (by decide) (fun x=>mkA 36 x 1) (fun l hl=>if_neg (hA l hl))
 ·obtain e | e:m=0∨m=1:=by omega
  ·subst e;exact C7q n (by omega) [63] 108 z (B7z _ (by decide)) (by decide) (fun x=>mkA 37 x 0) (fun l hl=>rfl)
  ·subst e;exact C7q n (by omega) [63] 104 z (B7z _ (by decide)) (by decide) (fun x=>mkA 37 x 1) (fun l hl=>rfl)
 ·have hD:∀ l:List UInt8,(l++[36]).dropLast=l:=fun l=>List.dropLast_concat
  obtain e | e:m=0∨m=1:=by omega
  ·subst e
   refine D8g n (by omega) [] z (fun b hb=>by cases hb) (fun x=>mkA 43 x 0) (fun l ⟨b,t,e,hb⟩=>?_)
   subst e
   show (if b.toNat=63 then _ else mkA 43 (B3a ((b::t)++[36]).dropLast) 0)=_
   rw [if_neg (by omega),hD]
  ·subst e
   refine D8g n (by omega) [63] z (B7z _ (by decide)) (fun x=>mkA 43 x 1) (fun l ⟨b,t,e,hb⟩=>?_)
   show mkA 43 (B3a (l++[36]).dropLast) 1=_
   rw [hD]
theorem D5a:∀ (r:List Int) (ah:List UInt8),(∀ n ∈ r,-1≤n)→B9k ah→B9k (pr3 ah r)
 | [],ah,_,_=>fun b hb=>by cases hb
 | n::r,ah,h,ha=>by
  refine B4v ha (B4v (fun b hb=>?_) (D5a r [58] (fun x hx=>h x (List.mem_cons_of_mem _ hx)) (B7z _ (by decide))))
  have:=C2g (h n (List.mem_cons_self ..)) b hb
  unfold B1u at this;omega
theorem D5q:∀ (l:List (List Int)) (ah:List UInt8),(∀ r ∈ l,A4b r)→B9k ah→B9k (pr2 ah l)
 | [],ah,_,_=>fun b hb=>by cases hb
 | r::l,ah,h,ha=>B4v (D5a r ah (fun n hn=>((h r (List.mem_cons_self ..)).2.2.2 n hn).1) ha) (D5q l [59] (fun x hx=>h x (List.mem_cons_of_mem _ hx)) (B7z _ (by decide)))
theorem E0k {l:List Act} (h:∀ a ∈ l,B3d a) (z:List UInt8):(dc (C1h l++z)).kind=39:=by
 have e:C1h l++z=([27,91]++(pr2 [] (l.map G1)++[109]))++z:=by unfold C1h;rw [List.append_assoc [27,91]]
 rw [e,C4q _ 109 z (D5q _ _ (B7w (fun a ha=>A6k (h a ha))) (fun b hb=>by cases hb)) (by decide)]
 rfl
theorem C3g {l:List Act} (h:A3g l) (k:Nat):∀ a ∈ l.take (A1i k l),B3d a:=fun a ha=>D2w (C2x k l a ha) (h a (List.mem_of_mem_take ha))
theorem D9d {a:Act} {r:List Act} (h:a.kind=39):(a::r).take (A1i 16 (a::r))≠[]:=by
 rw [show A1i 16 (a::r)=A1i 15 r+1 from B1k h];simp
theorem D8j {a:Act} {r:List Act} (h:A3g (a::r)):enc (a::r)≠[]:=by
 by_cases ha:a.kind=39
 ·rw [B7a (by rw [B1k ha];omega)];unfold C1h;simp
 ·rw [B6w (B8e ha)]
  have:=E5o (h a (List.mem_cons_self ..))
  simp [this]
theorem D8b {a:Act} {r:List Act} (h:A3g (a::r)):(a.kind=39→(dc (enc (a::r))).kind=39)∧(a.kind≠39→dc (enc (a::r))=a):=by
 refine ⟨fun ha=>?_,fun ha=>?_⟩
 ·rw [B7a (by rw [B1k ha];omega)];exact E0k (C3g h 16) _
 ·rw [B6w (B8e ha)];exact E3w (h a (List.mem_cons_self ..)) ha _
theorem C8x:∀ (k:Nat) (x y:List Act),x.length≤k→A3g x→A3g y→enc x=enc y→x=y
 | _,[],[],_,_,_,_=>rfl
 | _,[],b::s,_,_,hy,e=>absurd e.symm (D8j hy)
 | _,a::r,[],_,hx,_,e=>absurd e (D8j hx)
 | 0,a::r,b::s,h,_,_,_=>by simp at h
 | k+1,a::r,b::s,h,hx,hy,e=>by
  simp only [List.length_cons] at h
  obtain ⟨p1,p2⟩:=D8b hx
  obtain ⟨q1,q2⟩:=D8b hy
  by_cases ha:a.kind=39
  ·by_cases hb:b.kind=39
   ·have l1:A1i 16 (a::r)=A1i 15 r+1:=B1k ha
    have e':=e
    rw [B7a (l:=a::r) (by rw [B1k ha];omega),B7a (l:=b::s) (by rw [B1k hb];omega)] at e'
    obtain ⟨i1,i2⟩:=D9s (C3g hx 16) (C3g hy 16) (D9d ha) (D9d hb) e'
    have ih:=C8x k _ _ (by rw [List.length_drop,List.length_cons];omega) (hx.drop _) (hy.drop _) i2
    rw [← List.take_append_drop (A1i 16 (a::r)) (a::r),i1,ih,List.take_append_drop]
   ·exfalso
    have:=p1 ha
    rw [e,q2 hb] at this;exact hb this
  ·by_cases hb:b.kind=39
   ·exfalso
    have:=q1 hb
    rw [← e,p2 ha] at this;exact ha this
   ·have hab:a=b:=by rw [← p2 ha,e,q2 hb]
    subst hab
    rw [B6w (B8e ha),B6w (B8e ha)] at e
    rw [C8x k r s (by omega) (hx.drop 1) (hy.drop 1) (List.append_cancel_left e)]
theorem D0p (x y z:List Act) (hx:A3g x) (hy:A3g y) (hz:A3g z) (lx:x.length≤40) (ly:y.length≤40) (lz:z.length≤40):V8 x y z=true:=by
 have hm:∀ x:List Act,A3g x→∀ a ∈ x,D3p a.m:=fun x hx a ha=>E1t (hx a ha)
 unfold V8
 rw [B5w (by omega) (hm x hx) hx,B5w (by omega) (hm y hy) hy,B5w (by omega) (hm z hz) hz]
 simp only [B9]
 rw [D4d,D4d]
 have hi:∀ w:List Act,A3g w→decide (enc x=enc w)=decide (x=w):=fun w hw=>decide_eq_decide.2 ⟨C8x _ x w (Nat.le_refl _) hx hw,fun e=>by rw [e]⟩
 rw [hi y hy,hi z hz]
 simp
theorem C5h (l m:List Drf) (at_:UInt8) (hl:∀ d ∈ l,A9l d) (hm:∀ d ∈ m,A9l d):A4k l m at_=true:=by
 have gx:=B6z l hl
 have gy:=B6z m hm
 have lx:=A6p l
 have ly:=A6p m
 unfold A4k
 rw [D3m]
 simp only [B9,Bool.not_true,cond_false,List.nil_append]
 generalize A3p l=x at gx lx ⊢
 generalize A3p m=y at gy ly ⊢
 by_cases h:0<x.length∧0<y.length
 ·rw [decide_eq_true (by omega:(0:Int)<(x.length:Int)),decide_eq_true (by omega:(0:Int)<(y.length:Int))]
  refine D0p x y _ gx gy ?_ lx ly (by rw [List.length_set];exact lx)
  intro a ha
  rcases List.mem_or_eq_of_mem_set ha with ha | rfl
  ·exact gx a ha
  ·rw [gdE h.2];exact gy _ (List.getElem_mem h.2)
 ·rw [show (decide ((0:Int)<(x.length:Int))&&decide ((0:Int)<(y.length:Int)))=false by simp only [Bool.and_eq_false_iff,decide_eq_false_iff_not];omega,cond_false]
  exact D0p x y x gx gy gx lx ly lx
end Go.Proofs.YtanighkpfmgnbaaGreatDoor
