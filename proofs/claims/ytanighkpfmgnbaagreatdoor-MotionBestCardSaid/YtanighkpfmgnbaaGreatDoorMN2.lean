import Derived.Test.YtanighkpfmgnbaaGreatDoorMN1
set_option linter.unusedVariables false
set_option linter.unusedSimpArgs false
set_option linter.unnecessarySimpa false
set_option maxRecDepth 10000
namespace Go.Proofs.YtanighkpfmgnbaaGreatDoor
open Go Go.Fen
theorem B8m {α:Type} (a w:Act) (f:Unit→Option α):Option.bind (A7j a w) f=bif decide (a=w) then f () else none:=by
 unfold A7j Y0
 cases decide (a=w)<;>rfl
theorem B2e {α:Type} (b:Bool) (f:Unit→Option α):Option.bind (Y0 b) f=bif b then f () else none:=by
 unfold Y0;cases b<;>rfl
theorem D2s {α:Type} (t:List UInt8) (x:α):Option.bind (A7g t) (fun _=>some x)=bif A8m t then some x else none:=by
 rw [← D3a];cases A7g t<;>rfl
theorem E3t (n m:Int) (c:Col) (t:List UInt8):A0x n m c t=O7 ⟨44,n,m,c,t⟩:=by
 unfold A0x W4 A6v
 rw [B2e,cond_true,B8m,D2s]
 have hB:decide ((⟨44,n,m,c,t⟩:Act)={Act.zero with kind:=45,n:=n,color:=c})=false:=decide_eq_false (fun h=>by injection h with h;exact absurd h (by decide))
 have hC:decide ((⟨44,n,m,c,t⟩:Act)={Act.zero with kind:=46,text:=t})=false:=decide_eq_false (fun h=>by injection h with h;exact absurd h (by decide))
 unfold O7
 simp only [hB,hC,Bool.false_and,cond_false]
 cases decide ((⟨44,n,m,c,t⟩:Act)={Act.zero with kind:=44,text:=t})<;>cases A8m t<;>rfl
theorem E3w (n m:Int) (c:Col) (t:List UInt8):Y5 n m c t=O7 ⟨45,n,m,c,t⟩:=by
 unfold Y5 U1 A6p
 rw [B2e,cond_true,B8m]
 have hA:decide ((⟨45,n,m,c,t⟩:Act)={Act.zero with kind:=44,text:=t})=false:=decide_eq_false (fun h=>by injection h with h;exact absurd h (by decide))
 have hC:decide ((⟨45,n,m,c,t⟩:Act)={Act.zero with kind:=46,text:=t})=false:=decide_eq_false (fun h=>by injection h with h;exact absurd h (by decide))
 unfold O7 B5
 simp only [hA,hC,Bool.false_and,cond_false]
 cases decide ((⟨45,n,m,c,t⟩:Act)={Act.zero with kind:=45,n:=n,color:=c}) with
 | false=>rfl
 | true =>
  simp only [B2e,cond_true,Bool.true_and]
  by_cases hk:c.kind=2
  ·by_cases h0:(0:Int)≤n
   ·rw [decide_eq_true hk,decide_eq_true h0,C4u h0]
    rcases D9j hk with e | ⟨e1,e2⟩
    ·rw [e]
     cases decide ((A7p c).2=0)<;>cases decide (n≤255)<;>rfl
    ·rw [decide_eq_false e1,decide_eq_false e2]
     cases decide (n≤255)<;>rfl
   ·rw [decide_eq_false h0]
    cases decide ((A0r c).2=0)<;>cases decide (c.kind=2)<;>rfl
  ·rw [decide_eq_false hk]
   cases decide ((A0r c).2=0)<;>cases decide ((0:Int)≤n)<;>cases decide (n≤255)<;>rfl
theorem E3r (n m:Int) (c:Col) (t:List UInt8):Y7 n m c t=O7 ⟨46,n,m,c,t⟩:=by
 unfold Y7 S6 A6u
 rw [B2e,cond_true,B8m]
 have hA:decide ((⟨46,n,m,c,t⟩:Act)={Act.zero with kind:=44,text:=t})=false:=decide_eq_false (fun h=>by injection h with h;exact absurd h (by decide))
 have hB:decide ((⟨46,n,m,c,t⟩:Act)={Act.zero with kind:=45,n:=n,color:=c})=false:=decide_eq_false (fun h=>by injection h with h;exact absurd h (by decide))
 unfold O7 B5
 simp only [hA,hB,Bool.false_and,cond_false]
 cases decide ((⟨46,n,m,c,t⟩:Act)={Act.zero with kind:=46,text:=t}) with
 | false=>rfl
 | true =>
  simp only [B2e,cond_true,Bool.true_and]
  by_cases h:(t.length:Int)≤378
  ·have h2:(X1 t).2=0:=by rw [C7f (by omega)]
   rw [decide_eq_true h,decide_eq_true h2,E4j (by omega)]
   rfl
  ·rw [decide_eq_false h];rfl
def E4s (n:Int):Prop:=-9223372036854775808≤n∧n≤9223372036854775807
theorem D6e {c:Bool}:(bif c then (200:Int) else 0)=0 ↔ c=false:=by cases c<;>decide
theorem B9e {c:Bool}:(bif !c then (200:Int) else 0)=0 ↔ c=true:=by cases c<;>decide
def C9f:List Int:=[17,18,19,20,26,27,35,38,40,41,2,3,4,5,6,8,9,10,11,12,13,15,16,7,14,42,21,33,22,23,24,25,28,29,30,31,32,34,36,37,43]
theorem D7n (k:Int):H6 k C0=C9f.contains k:=by rw [B2p];rfl
theorem D1b (lo hi n:Int):A4 ({Spn.zero with lo:=lo,hi:=hi}) n=(decide (lo≤n)&&decide (n≤hi)):=rfl
theorem E2d (n lo hi:Int):Q7 n lo hi=(decide (lo≤n)&&decide (n≤hi)):=by unfold Q7;rfl
theorem D7y (n:Int):(decide ((0:Int)≤n)&&decide (n≤0))=decide (n=0):=by
 by_cases h:n=0
 ·subst h;rfl
 ·rw [decide_eq_false h,Bool.and_eq_false_iff,decide_eq_false_iff_not,decide_eq_false_iff_not];omega
theorem D5s {a:Act} (hk:a.kind≠1) (h:C9f.contains a.kind=true):(D9 a.kind a.n&&F6 a.kind a.m)=X2 a:=by
 obtain ⟨k,n,m,c,t⟩:=a
 simp only [C9f,List.contains_cons,List.contains_nil,Bool.or_false,Bool.or_eq_true,beq_iff_eq] at h
 unfold X2 I7 A0m A1w L6 A1x R5
 rcases h with h | h | h | h | h | h | h | h | h | h | h | h | h | h | h | h | h | h | h | h | h | h | h | h | h | h | h | h | h | h | h | h | h | h | h | h | h | h | h | h | h<;>subst h <;>
  simp only [D9,F6,Int.reduceEq,decide_true,decide_false,cond_true,cond_false,D1b,E2d,D7y,A0l]
theorem D5m {a:Act} (h1:a.kind≠1) (h39:a.kind≠39) (h44:a.kind≠44) (h45:a.kind≠45) (h46:a.kind≠46) (h:C9f.contains a.kind=false):X2 a=false:=by
 simp only [C9f,List.contains_cons,List.contains_nil,Bool.or_false,Bool.or_eq_false_iff,beq_eq_false_iff_ne,ne_eq] at h
 unfold X2 I7 A0m A1w L6 A1x
 simp only [h,h1,decide_false,cond_false]
theorem D1u {a:Act} (hm:E4s a.m):O9 a=0 ↔ P9 a=true:=by
 unfold O9 P9 A2b B5
 by_cases h39:a.kind=39
 ·have e:(⟨39,a.n,a.m,a.color,a.text⟩:Act)=a:=by rw [← h39]
  rw [e,h39]
  show (bif (!decide (I6 a=0)) then (200:Int) else 0)=0 ↔ decide (P8 a=0)=true
  rw [B9e,decide_eq_true_iff,decide_eq_true_iff];exact E1w hm.1 hm.2
 rw [decide_eq_false h39,cond_false,cond_false]
 by_cases h44:a.kind=44
 ·have e:O7 a=A0x a.n a.m a.color a.text:=by rw [E3t,← h44]
  rw [e,h44]
  show (bif (!decide ((A0x a.n a.m a.color a.text).2=0)) then (200:Int) else 0)=0 ↔ decide ((A0x a.n a.m a.color a.text).2=0)=true
  rw [B9e,decide_eq_true_iff]
 by_cases h45:a.kind=45
 ·have e:O7 a=Y5 a.n a.m a.color a.text:=by rw [E3w,← h45]
  rw [e,h45]
  show (bif (!decide ((Y5 a.n a.m a.color a.text).2=0)) then (200:Int) else 0)=0 ↔ decide ((Y5 a.n a.m a.color a.text).2=0)=true
  rw [B9e,decide_eq_true_iff]
 by_cases h46:a.kind=46
 ·have e:O7 a=Y7 a.n a.m a.color a.text:=by rw [E3r,← h46]
  rw [e,h46]
  show (bif (!decide ((Y7 a.n a.m a.color a.text).2=0)) then (200:Int) else 0)=0 ↔ decide ((Y7 a.n a.m a.color a.text).2=0)=true
  rw [B9e,decide_eq_true_iff]
 simp only [h44,h45,h46,decide_false,cond_false]
 by_cases h1:a.kind=1
 ·rw [decide_eq_true h1,cond_true,D6e]
  have en:X2 a=((decide ((0:Int)≤(B9m a.n)))&&(decide (a.m=0))):=by unfold X2;rw [decide_eq_true h1,cond_true]
  rw [en,D9n]
  have ea:decide ((⟨1,a.n,a.m,a.color,a.text⟩:Act)=A3e a.kind a.n 0)=(decide (a.m=0)&&decide (a.color=Col.zero)&&decide (a.text=[])):=by
   rw [h1,show A3e 1 a.n 0=⟨1,a.n,0,Col.zero,[]⟩ from rfl]
   rw [Bool.eq_iff_iff]
   simp only [decide_eq_true_eq,Bool.and_eq_true,Act.mk.injEq,true_and]
   exact and_assoc.symm
  rw [ea]
  simp only [Bool.or_eq_false_iff,decide_eq_false_iff_not,Bool.not_eq_false',Bool.and_eq_true,decide_eq_true_eq,and_assoc,Int.not_lt]
 ·rw [decide_eq_false h1,cond_false,D6e,D7n]
  cases hN:C9f.contains a.kind with
  | false=>rw [D5m h1 h39 h44 h45 h46 hN];simp
  | true =>
   rw [← D5s h1 hN]
   simp only [Bool.or_eq_false_iff,Bool.not_eq_false',Bool.and_eq_true,decide_eq_true_eq,Bool.not_true,true_and,and_assoc]
theorem E2f {a:Act} (h:P9 a=true) (h1:a.kind≠1) (h39:a.kind≠39) (h44:a.kind≠44) (h45:a.kind≠45) (h46:a.kind≠46):C9f.contains a.kind=true∧X2 a=true:=by
 unfold P9 A2b at h
 rw [decide_eq_false h39,decide_eq_false h44,decide_eq_false h45,decide_eq_false h46] at h
 simp only [cond_false,Bool.and_eq_true] at h
 refine ⟨?_,h.1.1⟩
 cases hN:C9f.contains a.kind with
 | true=>rfl
 | false=>rw [D5m h1 h39 h44 h45 h46 hN] at h;exact absurd h.1.1 (by decide)
theorem E7z (n:Int) (hn:0≤n∧n≤9999):O8 (-2) [n]=K6 (n.toNat+1) n:=by
 rw [D5q (-2) hn,if_neg (by omega),C4u hn.1]
theorem E0p (k n:Int) (hn:0≤n∧n≤9999):O8 k [n]=O0 n k:=by rw [D5q k hn,C9p k hn.1]
theorem E3u (k n m:Int) (hn:0≤n∧n≤9999) (hm:0≤m∧m≤9999):O8 k [n,m]=A4k n m k:=by rw [E2y k hn hm,E6l k hn.1 hm.1]
theorem E4z {a:Act} (h:a.kind=39):A6a a=A7i [a]:=by
 unfold A6a B5;rw [h];rfl
theorem C7p {a:Act} (hk:a.kind=39) (h:P9 a=true):Told a:=by
 unfold P9 at h
 rw [decide_eq_true hk,cond_true,decide_eq_true_iff] at h
 exact C1c (E3z h)
set_option maxHeartbeats 4000000 in
theorem D9u {a:Act} (h:P9 a=true):A2v a=A6a a:=by
 by_cases h1:a.kind=1
 ·obtain ⟨k,n,m,c,t⟩:=a;dsimp only at h1;subst h1;exact E0i n
 by_cases h39:a.kind=39
 ·have hT:=C7p h39 h
  rw [E4z h39,D9g (Nat.le_of_ble_eq_true rfl) (fun x hx=>by rw [List.mem_singleton.1 hx];exact hT),← D5a (l:=[a]) (Nat.le_of_ble_eq_true rfl) (fun x hx=>by rw [List.mem_singleton.1 hx];exact hT)]
  obtain ⟨k,n,m,c,t⟩:=a;dsimp only at h39;subst h39;rfl
 by_cases h44:a.kind=44
 ·obtain ⟨k,n,m,c,t⟩:=a;dsimp only at h44;subst h44
  show ([27,93]++(A0x n m c t).1)++[27,92]=(([27,93]++(O7 ⟨44,n,m,c,t⟩).1)++[27])++[92]
  rw [E3t,List.append_assoc _ [27] [92]];rfl
 by_cases h45:a.kind=45
 ·obtain ⟨k,n,m,c,t⟩:=a;dsimp only at h45;subst h45
  show ([27,93]++(Y5 n m c t).1)++[27,92]=(([27,93]++(O7 ⟨45,n,m,c,t⟩).1)++[27])++[92]
  rw [E3w,List.append_assoc _ [27] [92]];rfl
 by_cases h46:a.kind=46
 ·obtain ⟨k,n,m,c,t⟩:=a;dsimp only at h46;subst h46
  show ([27,93]++(Y7 n m c t).1)++[27,92]=(([27,93]++(O7 ⟨46,n,m,c,t⟩).1)++[27])++[92]
  rw [E3r,List.append_assoc _ [27] [92]];rfl
 obtain ⟨hN,hn⟩:=E2f h h1 h39 h44 h45 h46
 rw [← D5s h1 hN] at hn
 clear h h1 h39 h44 h45 h46
 obtain ⟨k,n,m,c,t⟩:=a
 simp only [C9f,List.contains_cons,List.contains_nil,Bool.or_false,Bool.or_eq_true,beq_iff_eq] at hN
 have q1:=E0p 1 n
 have q0:=E0p 0 n
 have qm:=E0p 1 m
 have qd:=E7z n
 have t1:=E3u 1 n m
 have t0:=E3u 0 n m
 rcases hN with h | h | h | h | h | h | h | h | h | h | h | h | h | h | h | h | h | h | h | h | h | h | h | h | h | h | h | h | h | h | h | h | h | h | h | h | h | h | h | h | h<;>subst h <;>
  simp only [D9,F6,Int.reduceEq,decide_true,decide_false,cond_true,cond_false,D1b,A0l,Bool.and_eq_true,Bool.or_eq_true,decide_eq_true_eq] at hn
 all_goals first
  | rfl
  | (show ([27,91]++O8 1 [n])++_=[27,91]++(O0 n 1++_);rw [q1 (by omega)];exact List.append_assoc ..)
  | (show ([27,91]++O8 0 [n])++_=[27,91]++(O0 n 0++_);rw [q0 (by omega)];exact List.append_assoc ..)
  | (show ([27,91]++O8 1 [m])++_=[27,91]++(O0 m 1++_);rw [qm (by omega)];exact List.append_assoc ..)
  | (show ([27,91]++O8 1 [n,m])++_=[27,91]++(A4k n m 1++_);rw [t1 (by omega) (by omega)];exact List.append_assoc ..)
  | (show ([27,91]++O8 0 [n,m])++_=[27,91]++(A4k n m 0++_);rw [t0 (by omega) (by omega)];exact List.append_assoc ..)
  | (show ([27,91]++O8 (-2) [n])++_=[27,91]++(K6 (n.toNat+1) n++_);rw [qd (by omega)];exact List.append_assoc ..)
  | (obtain e | e:n=0∨n=1:=by omega)<;>subst e<;>rfl
  | (obtain e | e:n=2∨n=3:=by omega)<;>subst e<;>rfl
  | (show (([27,91]++[63])++O8 (-2) [n])++_=[27,91]++(([63]++K6 (n.toNat+1) n)++_);rw [qd (by omega)];simp only [List.append_assoc];rfl)
  | (obtain e | e:m=0∨m=1:=by omega)<;>subst e<;>(show (([27,91]++_)++O8 (-2) [n])++_=[27,91]++((_++K6 (n.toNat+1) n)++_);rw [qd (by omega)];simp only [List.append_assoc];rfl)
end Go.Proofs.YtanighkpfmgnbaaGreatDoor
set_option linter.unusedVariables false
set_option linter.unusedSimpArgs false
set_option linter.unnecessarySimpa false
set_option maxRecDepth 10000
namespace Go.Proofs.YtanighkpfmgnbaaGreatDoor
open Go Go.Fen
def A4t:Nat→List Act→Nat
 | 0,_=>0
 | _+1,[]=>0
 | k+1,a::r=>if a.kind=39 then A4t k r+1 else 0
theorem C8x:∀ (k:Nat) (l:List Act),A4t k l≤k∧A4t k l≤l.length
 | 0,l=>⟨Nat.le_refl _,Nat.zero_le _⟩
 | k+1,[]=>⟨Nat.zero_le _,Nat.le_refl _⟩
 | k+1,a::r=>by
  have:=C8x k r
  unfold A4t
  split
  ·simp only [List.length_cons];omega
  ·exact ⟨Nat.zero_le _,Nat.zero_le _⟩
theorem D0c:∀ (k:Nat) (l:List Act),∀ x ∈ l.take (A4t k l),x.kind=39
 | 0,l=>by simp [A4t]
 | k+1,[]=>by simp [A4t]
 | k+1,a::r=>by
  unfold A4t
  split
  ·rename_i h
   intro x hx
   rw [List.take_succ_cons] at hx
   rcases List.mem_cons.1 hx with rfl | hx
   ·exact h
   ·exact D0c k r x hx
  ·simp
theorem B7u {l:List Act} {n:Nat} (h:n<l.length):l.drop n=l.getD n Act.zero::l.drop (n+1):=by
 rw [gdE h];exact List.drop_eq_getElem_cons h
theorem E1y {l:List Act} {n k:Nat} (h:n<l.length) (hk:(l.getD n Act.zero).kind=39):A4t (k+1) (l.drop n)=A4t k (l.drop (n+1))+1:=by
 rw [B7u h];exact if_pos hk
theorem D9h {l:List Act} {n k:Nat} (h:¬ (n<l.length∧0<k∧(l.getD n Act.zero).kind=39)):A4t k (l.drop n)=0:=by
 cases k with
 | zero=>rfl
 | succ k =>
  by_cases h1:n<l.length
  ·rw [B7u h1];unfold A4t;rw [if_neg (fun e=>h ⟨h1,by omega,e⟩)]
  ·rw [List.drop_eq_nil_of_le (by omega)];rfl
def D1f:Nat→List Act→List UInt8
 | 0,_=>[]
 | _+1,[]=>[]
 | fu+1,a::r=>if A4t 16 (a::r)=0 then A6a a++D1f fu r else D9l ((a::r).take (A4t 16 (a::r)))++D1f fu ((a::r).drop (A4t 16 (a::r)))
theorem C0y:∀ (fu fu':Nat) (l:List Act),l.length<fu→l.length<fu'→D1f fu l=D1f fu' l
 | 0,_,_,h,_=>by omega
 | _,0,_,_,h=>by omega
 | fu+1,fu'+1,[],_,_=>rfl
 | fu+1,fu'+1,a::r,h,h'=>by
  simp only [List.length_cons] at h h'
  unfold D1f
  split
  ·rw [C0y fu fu' r (by omega) (by omega)]
  ·rw [C0y fu fu' _ (by rw [List.length_drop,List.length_cons];omega) (by rw [List.length_drop,List.length_cons];omega)]
def enc (l:List Act):List UInt8:=D1f (l.length+1) l
theorem D6m:enc []=[]:=rfl
theorem D4z {a:Act} {r:List Act} (h:A4t 16 (a::r)=0):enc (a::r)=A6a a++enc r:=by
 unfold enc
 rw [D1f,if_pos h];rfl
theorem E1m {l:List Act} (h:A4t 16 l≠0):enc l=D9l (l.take (A4t 16 l))++enc (l.drop (A4t 16 l)):=by
 cases l with
 | nil=>exact absurd rfl h
 | cons a r =>
  unfold enc
  rw [D1f,if_neg h,C0y (a::r).length (((a::r).drop (A4t 16 (a::r))).length+1) _ (by rw [List.length_drop,List.length_cons];omega) (by omega)]
def A5d (l:List Act):Prop:=∀ a ∈ l,P9 a=true
theorem A5d.drop {l:List Act} (h:A5d l) (n:Nat):A5d (l.drop n):=fun a ha=>h a (List.mem_of_mem_drop ha)
theorem A5d.take {l:List Act} (h:A5d l) (n:Nat):A5d (l.take n):=fun a ha=>h a (List.mem_of_mem_take ha)
theorem D8v {l:List Act} (h:A5d l) (k:Nat):∀ a ∈ l.take (A4t k l),Told a:=fun a ha=>C7p (D0c k l a ha) (h a (List.mem_of_mem_take ha))
theorem E0m {l:List Act} (h:A5d l):A3f (l.take (A4t 16 l))=D9l (l.take (A4t 16 l)) :=
 D5a (by rw [List.length_take];have:=(C8x 16 l).1;omega) (D8v h 16)
theorem eb5 (l:List Act) (ag:List UInt8→Int→List UInt8×Int) (b:List UInt8) (i:Nat):∀ (fu j:Nat),l.length - (i+j)<fu→j≤16 →
  A0a l ag fu b (i:Int) ((i+j:Nat):Int)=if j+A4t (16 - j) (l.drop (i+j))=0 then ag (b++A2v (l.getD i Act.zero)) ((i:Int)+1)
   else ag (b++A3f ((l.drop i).take (j+A4t (16 - j) (l.drop (i+j))))) ((i+(j+A4t (16 - j) (l.drop (i+j))):Nat):Int)
 | 0,j,h,_=>by omega
 | fu+1,j,h,hj=>by
  rw [A0a]
  by_cases hc:i+j<l.length∧0<16 - j∧(l.getD (i+j) Act.zero).kind=39
  ·have e:(((decide (((i+j:Nat):Int)<(l.length:Int)))&&(decide (((i+j:Nat):Int)<((i:Int)+16))))&&(decide ((l.getD ((((i+j:Nat):Int)).toNat) Act.zero).kind=39)))=true:=by
    rw [Int.toNat_natCast];simp only [Bool.and_eq_true,decide_eq_true_eq];exact ⟨⟨by omega,by omega⟩,hc.2.2⟩
   rw [e,cond_true]
   have ih:=eb5 l ag b i fu (j+1) (by omega) (by omega)
   have e2:(((i+j:Nat):Int)+1)=((i+(j+1):Nat):Int):=by omega
   rw [e2,ih]
   obtain ⟨m,hm⟩:∃ m,16 - j=m+1:=⟨16 - j - 1,by omega⟩
   have e3:A4t (16 - j) (l.drop (i+j))=A4t (16 - (j+1)) (l.drop (i+(j+1)))+1:=by
    rw [hm,E1y hc.1 hc.2.2,show 16 - (j+1)=m by omega];rfl
   rw [e3,show j+1+A4t (16 - (j+1)) (l.drop (i+(j+1)))=j+(A4t (16 - (j+1)) (l.drop (i+(j+1)))+1) by omega]
  ·have e:(((decide (((i+j:Nat):Int)<(l.length:Int)))&&(decide (((i+j:Nat):Int)<((i:Int)+16))))&&(decide ((l.getD ((((i+j:Nat):Int)).toNat) Act.zero).kind=39)))=false:=by
    rw [Int.toNat_natCast]
    simp only [Bool.and_eq_false_iff,decide_eq_false_iff_not]
    by_cases h1:i+j<l.length
    ·by_cases h2:0<16 - j
     ·exact .inr (fun h3=>hc ⟨h1,h2,h3⟩)
     ·exact .inl (.inr (by omega))
    ·exact .inl (.inl (by omega))
   rw [e,cond_false,D9h hc]
   by_cases h0:j=0
   ·subst h0
    rw [decide_eq_true (by omega:((i+0:Nat):Int)=(i:Int)),cond_true,if_pos (by rfl),Int.toNat_natCast]
   ·rw [decide_eq_false (by omega:¬ ((i+j:Nat):Int)=(i:Int)),cond_false,if_neg (by omega),Int.toNat_natCast,Int.toNat_natCast,show i+j - i=j by omega]
    unfold B5
    rw [show (((i+j:Nat):Int) - 1)+1=((i+(j+0):Nat):Int) by omega];rfl
theorem eb4 (l:List Act) (hg:A5d l):∀ (fu i:Nat) (b:List UInt8),l.length - i<fu→i≤l.length→S3 l fu b (i:Int)=(b++enc (l.drop i),0)
 | 0,i,b,h,_=>by omega
 | fu+1,i,b,h,hi=>by
  rw [S3]
  by_cases hc:i<l.length
  ·rw [decide_eq_true (by omega:(i:Int)<(l.length:Int)),cond_true]
   have h5:=eb5 l (S3 l fu) b i (((l.length:Int) - (i:Int)).toNat+1) 0 (by omega) (by omega)
   rw [show ((i+0:Nat):Int)=(i:Int) by omega] at h5
   rw [h5]
   simp only [Nat.zero_add,Nat.add_zero,Nat.sub_zero]
   have hd:=B7u hc
   by_cases h0:A4t 16 (l.drop i)=0
   ·rw [if_pos h0,show (i:Int)+1=((i+1:Nat):Int) by omega,eb4 l hg fu (i+1) _ (by omega) (by omega)]
    have ht:A2v (l.getD i Act.zero)=A6a (l.getD i Act.zero):=D9u (hg _ (by rw [gdE hc];exact List.getElem_mem hc))
    rw [ht,hd,D4z (by rw [← hd];exact h0),List.append_assoc]
   ·have hl:=C8x 16 (l.drop i)
    rw [List.length_drop] at hl
    rw [if_neg h0,eb4 l hg fu _ _ (by omega) (by omega),E0m (hg.drop i),E1m h0,List.drop_drop,List.append_assoc]
  ·rw [decide_eq_false (by omega:¬ (i:Int)<(l.length:Int)),cond_false,List.drop_eq_nil_of_le (by omega),D6m,List.append_nil]
theorem eb0 (L:List Act):∀ (l:List Act) (t:Nat),(∀ a ∈ l,O9 a=0)→U9 L l t=S3 L (((L.length:Int) - 0).toNat+1) [] 0
 | [],t,_=>rfl
 | a::l,t,h=>by
  rw [U9,h a (List.mem_cons_self ..)]
  exact eb0 L l (t+1) (fun x hx=>h x (List.mem_cons_of_mem _ hx))
theorem D3z {l:List Act} (hl:l.length≤131072) (hm:∀ a ∈ l,E4s a.m) (hg:A5d l):P7 l=(enc l,0):=by
 unfold P7
 rw [decide_eq_false (by omega:¬ (131072:Int)<(l.length:Int)),cond_false,eb0 l l 0 (fun a ha=>(D1u (hm a ha)).2 (hg a ha))]
 have:=eb4 l hg (((l.length:Int) - 0).toNat+1) 0 [] (by omega) (Nat.zero_le _)
 rw [List.drop_zero,List.nil_append] at this
 exact this
end Go.Proofs.YtanighkpfmgnbaaGreatDoor
