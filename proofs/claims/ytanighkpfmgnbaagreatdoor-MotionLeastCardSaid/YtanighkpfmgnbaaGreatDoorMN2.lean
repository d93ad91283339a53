import Derived.Test.YtanighkpfmgnbaaGreatDoorMN1
set_option linter.unusedVariables false
set_option linter.unusedSimpArgs false
set_option linter.unnecessarySimpa false
set_option maxRecDepth 10000
namespace Go.Proofs.YtanighkpfmgnbaaGreatDoor
open Go Go.Fen
theorem B6j {α:Type} (a w:Act) (f:Unit→Option α):Option.bind (A5n a w) f=bif decide (a=w) then f () else none:=by
 unfold A5n W7
 cases decide (a=w)<;>rfl
theorem B1a {α:Type} (b:Bool) (f:Unit→Option α):Option.bind (W7 b) f=bif b then f () else none:=by
 unfold W7;cases b<;>rfl
theorem D0t {α:Type} (t:List UInt8) (x:α):Option.bind (A5u t) (fun _=>some x)=bif A6x t then some x else none:=by
 rw [← C9p];cases A5u t<;>rfl
theorem D9s (n m:Int) (c:Col) (t:List UInt8):A0i n m c t=N5 ⟨44,n,m,c,t⟩:=by
 unfold A0i V1 A4s
 rw [B1a,cond_true,B6j,D0t]
 have hB:decide ((⟨44,n,m,c,t⟩:Act)={Act.zero with kind:=45,n:=n,color:=c})=false:=decide_eq_false (fun h=>by injection h with h;exact absurd h (by decide))
 have hC:decide ((⟨44,n,m,c,t⟩:Act)={Act.zero with kind:=46,text:=t})=false:=decide_eq_false (fun h=>by injection h with h;exact absurd h (by decide))
 unfold N5
 simp only [hB,hC,Bool.false_and,cond_false]
 cases decide ((⟨44,n,m,c,t⟩:Act)={Act.zero with kind:=44,text:=t})<;>cases A6x t<;>rfl
theorem D9v (n m:Int) (c:Col) (t:List UInt8):X1 n m c t=N5 ⟨45,n,m,c,t⟩:=by
 unfold X1 R4 A5h
 rw [B1a,cond_true,B6j]
 have hA:decide ((⟨45,n,m,c,t⟩:Act)={Act.zero with kind:=44,text:=t})=false:=decide_eq_false (fun h=>by injection h with h;exact absurd h (by decide))
 have hC:decide ((⟨45,n,m,c,t⟩:Act)={Act.zero with kind:=46,text:=t})=false:=decide_eq_false (fun h=>by injection h with h;exact absurd h (by decide))
 unfold N5 B4
 simp only [hA,hC,Bool.false_and,cond_false]
 cases decide ((⟨45,n,m,c,t⟩:Act)={Act.zero with kind:=45,n:=n,color:=c}) with
 | false=>rfl
 | true =>
  simp only [B1a,cond_true,Bool.true_and]
  by_cases hk:c.kind=2
  ·by_cases h0:(0:Int)≤n
   ·rw [decide_eq_true hk,decide_eq_true h0,C1n h0]
    rcases D6k hk with e | ⟨e1,e2⟩
    ·rw [e]
     cases decide ((A5p c).2=0)<;>cases decide (n≤255)<;>rfl
    ·rw [decide_eq_false e1,decide_eq_false e2]
     cases decide (n≤255)<;>rfl
   ·rw [decide_eq_false h0]
    cases decide ((Z9 c).2=0)<;>cases decide (c.kind=2)<;>rfl
  ·rw [decide_eq_false hk]
   cases decide ((Z9 c).2=0)<;>cases decide ((0:Int)≤n)<;>cases decide (n≤255)<;>rfl
theorem D9z (n m:Int) (c:Col) (t:List UInt8):X4 n m c t=N5 ⟨46,n,m,c,t⟩:=by
 unfold X4 R1 A4v
 rw [B1a,cond_true,B6j]
 have hA:decide ((⟨46,n,m,c,t⟩:Act)={Act.zero with kind:=44,text:=t})=false:=decide_eq_false (fun h=>by injection h with h;exact absurd h (by decide))
 have hB:decide ((⟨46,n,m,c,t⟩:Act)={Act.zero with kind:=45,n:=n,color:=c})=false:=decide_eq_false (fun h=>by injection h with h;exact absurd h (by decide))
 unfold N5 B4
 simp only [hA,hB,Bool.false_and,cond_false]
 cases decide ((⟨46,n,m,c,t⟩:Act)={Act.zero with kind:=46,text:=t}) with
 | false=>rfl
 | true =>
  simp only [B1a,cond_true,Bool.true_and]
  by_cases h:(t.length:Int)≤378
  ·have h2:(W0 t).2=0:=by rw [C4j (by omega)]
   rw [decide_eq_true h,decide_eq_true h2,E0z (by omega)]
   rfl
  ·rw [decide_eq_false h];rfl
def E2a (n:Int):Prop:=-9223372036854775808≤n∧n≤9223372036854775807
theorem D1l {c:Bool}:(bif c then (200:Int) else 0)=0 ↔ c=false:=by cases c<;>decide
theorem B7j {c:Bool}:(bif !c then (200:Int) else 0)=0 ↔ c=true:=by cases c<;>decide
def C5w:List Int:=[17,18,19,20,26,27,35,38,40,41,2,3,4,5,6,8,9,10,11,12,13,15,16,7,14,42,21,33,22,23,24,25,28,29,30,31,32,34,36,37,43]
theorem D3k (k:Int):H3 k B8=C5w.contains k:=by rw [B0q];rfl
theorem C7l (lo hi n:Int):A3 ({Spn.zero with lo:=lo,hi:=hi}) n=(decide (lo≤n)&&decide (n≤hi)):=rfl
theorem D8x (n lo hi:Int):Q1 n lo hi=(decide (lo≤n)&&decide (n≤hi)):=by unfold Q1;rfl
theorem D4g (n:Int):(decide ((0:Int)≤n)&&decide (n≤0))=decide (n=0):=by
 by_cases h:n=0
 ·subst h;rfl
 ·rw [decide_eq_false h,Bool.and_eq_false_iff,decide_eq_false_iff_not,decide_eq_false_iff_not];omega
theorem D2g {a:Act} (hk:a.kind≠1) (h:C5w.contains a.kind=true):(D9 a.kind a.n&&F4 a.kind a.m)=Y9 a:=by
 obtain ⟨k,n,m,c,t⟩:=a
 simp only [C5w,List.contains_cons,List.contains_nil,Bool.or_false,Bool.or_eq_true,beq_iff_eq] at h
 unfold Y9 I6 A0y A3a L7 A1b S1
 rcases h with h | h | h | h | h | h | h | h | h | h | h | h | h | h | h | h | h | h | h | h | h | h | h | h | h | h | h | h | h | h | h | h | h | h | h | h | h | h | h | h | h<;>subst h <;>
  simp only [D9,F4,Int.reduceEq,decide_true,decide_false,cond_true,cond_false,C7l,D8x,D4g,Z5]
theorem D2l {a:Act} (h1:a.kind≠1) (h39:a.kind≠39) (h44:a.kind≠44) (h45:a.kind≠45) (h46:a.kind≠46) (h:C5w.contains a.kind=false):Y9 a=false:=by
 simp only [C5w,List.contains_cons,List.contains_nil,Bool.or_false,Bool.or_eq_false_iff,beq_eq_false_iff_ne,ne_eq] at h
 unfold Y9 I6 A0y A3a L7 A1b
 simp only [h,h1,decide_false,cond_false]
theorem C8i {a:Act} (hm:E2a a.m):N8 a=0 ↔ S3 a=true:=by
 unfold N8 S3 A2n B4
 by_cases h39:a.kind=39
 ·have e:(⟨39,a.n,a.m,a.color,a.text⟩:Act)=a:=by rw [← h39]
  rw [e,h39]
  show (bif (!decide (H9 a=0)) then (200:Int) else 0)=0 ↔ decide (O4 a=0)=true
  rw [B7j,decide_eq_true_iff,decide_eq_true_iff];exact D8m hm.1 hm.2
 rw [decide_eq_false h39,cond_false,cond_false]
 by_cases h44:a.kind=44
 ·have e:N5 a=A0i a.n a.m a.color a.text:=by rw [D9s,← h44]
  rw [e,h44]
  show (bif (!decide ((A0i a.n a.m a.color a.text).2=0)) then (200:Int) else 0)=0 ↔ decide ((A0i a.n a.m a.color a.text).2=0)=true
  rw [B7j,decide_eq_true_iff]
 by_cases h45:a.kind=45
 ·have e:N5 a=X1 a.n a.m a.color a.text:=by rw [D9v,← h45]
  rw [e,h45]
  show (bif (!decide ((X1 a.n a.m a.color a.text).2=0)) then (200:Int) else 0)=0 ↔ decide ((X1 a.n a.m a.color a.text).2=0)=true
  rw [B7j,decide_eq_true_iff]
 by_cases h46:a.kind=46
 ·have e:N5 a=X4 a.n a.m a.color a.text:=by rw [D9z,← h46]
  rw [e,h46]
  show (bif (!decide ((X4 a.n a.m a.color a.text).2=0)) then (200:Int) else 0)=0 ↔ decide ((X4 a.n a.m a.color a.text).2=0)=true
  rw [B7j,decide_eq_true_iff]
 simp only [h44,h45,h46,decide_false,cond_false]
 by_cases h1:a.kind=1
 ·rw [decide_eq_true h1,cond_true,D1l]
  have en:Y9 a=((decide ((0:Int)≤(B6q a.n)))&&(decide (a.m=0))):=by unfold Y9;rw [decide_eq_true h1,cond_true]
  rw [en,D4q]
  have ea:decide ((⟨1,a.n,a.m,a.color,a.text⟩:Act)=A2c a.kind a.n 0)=(decide (a.m=0)&&decide (a.color=Col.zero)&&decide (a.text=[])):=by
   rw [h1,show A2c 1 a.n 0=⟨1,a.n,0,Col.zero,[]⟩ from rfl]
   rw [Bool.eq_iff_iff]
   simp only [decide_eq_true_eq,Bool.and_eq_true,Act.mk.injEq,true_and]
   exact and_assoc.symm
  rw [ea]
  simp only [Bool.or_eq_false_iff,decide_eq_false_iff_not,Bool.not_eq_false',Bool.and_eq_true,decide_eq_true_eq,and_assoc,Int.not_lt]
 ·rw [decide_eq_false h1,cond_false,D1l,D3k]
  cases hN:C5w.contains a.kind with
  | false=>rw [D2l h1 h39 h44 h45 h46 hN];simp
  | true =>
   rw [← D2g h1 hN]
   simp only [Bool.or_eq_false_iff,Bool.not_eq_false',Bool.and_eq_true,decide_eq_true_eq,Bool.not_true,true_and,and_assoc]
theorem D9h {a:Act} (h:S3 a=true) (h1:a.kind≠1) (h39:a.kind≠39) (h44:a.kind≠44) (h45:a.kind≠45) (h46:a.kind≠46):C5w.contains a.kind=true∧Y9 a=true:=by
 unfold S3 A2n at h
 rw [decide_eq_false h39,decide_eq_false h44,decide_eq_false h45,decide_eq_false h46] at h
 simp only [cond_false,Bool.and_eq_true] at h
 refine ⟨?_,h.1.1⟩
 cases hN:C5w.contains a.kind with
 | true=>rfl
 | false=>rw [D2l h1 h39 h44 h45 h46 hN] at h;exact absurd h.1.1 (by decide)
theorem E3y (n:Int) (hn:0≤n∧n≤9999):N9 (-2) [n]=M4 (n.toNat+1) n:=by
 rw [D2o (-2) hn,if_neg (by omega),C1n hn.1]
theorem D6a (k n:Int) (hn:0≤n∧n≤9999):N9 k [n]=O3 n k:=by rw [D2o k hn,C6b k hn.1]
theorem D9o (k n m:Int) (hn:0≤n∧n≤9999) (hm:0≤m∧m≤9999):N9 k [n,m]=A5s n m k:=by rw [D8s k hn hm,E0b k hn.1 hm.1]
theorem E0i {a:Act} (h:a.kind=39):A7v a=A5t [a]:=by
 unfold A7v B4;rw [h];rfl
theorem C5a {a:Act} (hk:a.kind=39) (h:S3 a=true):Told a:=by
 unfold S3 at h
 rw [decide_eq_true hk,cond_true,decide_eq_true_iff] at h
 exact B8m (D9n h)
set_option maxHeartbeats 4000000 in
theorem D6f {a:Act} (h:S3 a=true):A1z a=A7v a:=by
 by_cases h1:a.kind=1
 ·obtain ⟨k,n,m,c,t⟩:=a;dsimp only at h1;subst h1;exact D6y n
 by_cases h39:a.kind=39
 ·have hT:=C5a h39 h
  rw [E0i h39,D4z (Nat.le_of_ble_eq_true rfl) (fun x hx=>by rw [List.mem_singleton.1 hx];exact hT),← D1j (l:=[a]) (Nat.le_of_ble_eq_true rfl) (fun x hx=>by rw [List.mem_singleton.1 hx];exact hT)]
  obtain ⟨k,n,m,c,t⟩:=a;dsimp only at h39;subst h39;rfl
 by_cases h44:a.kind=44
 ·obtain ⟨k,n,m,c,t⟩:=a;dsimp only at h44;subst h44
  show ([27,93]++(A0i n m c t).1)++[27,92]=(([27,93]++(N5 ⟨44,n,m,c,t⟩).1)++[27])++[92]
  rw [D9s,List.append_assoc _ [27] [92]];rfl
 by_cases h45:a.kind=45
 ·obtain ⟨k,n,m,c,t⟩:=a;dsimp only at h45;subst h45
  show ([27,93]++(X1 n m c t).1)++[27,92]=(([27,93]++(N5 ⟨45,n,m,c,t⟩).1)++[27])++[92]
  rw [D9v,List.append_assoc _ [27] [92]];rfl
 by_cases h46:a.kind=46
 ·obtain ⟨k,n,m,c,t⟩:=a;dsimp only at h46;subst h46
  show ([27,93]++(X4 n m c t).1)++[27,92]=(([27,93]++(N5 ⟨46,n,m,c,t⟩).1)++[27])++[92]
  rw [D9z,List.append_assoc _ [27] [92]];rfl
 obtain ⟨hN,hn⟩:=D9h h h1 h39 h44 h45 h46
 rw [← D2g h1 hN] at hn
 clear h h1 h39 h44 h45 h46
 obtain ⟨k,n,m,c,t⟩:=a
 simp only [C5w,List.contains_cons,List.contains_nil,Bool.or_false,Bool.or_eq_true,beq_iff_eq] at hN
 have q1:=D6a 1 n
 have q0:=D6a 0 n
 have qm:=D6a 1 m
 have qd:=E3y n
 have t1:=D9o 1 n m
 have t0:=D9o 0 n m
 rcases hN with h | h | h | h | h | h | h | h | h | h | h | h | h | h | h | h | h | h | h | h | h | h | h | h | h | h | h | h | h | h | h | h | h | h | h | h | h | h | h | h | h<;>subst h <;>
  simp only [D9,F4,Int.reduceEq,decide_true,decide_false,cond_true,cond_false,C7l,Z5,Bool.and_eq_true,Bool.or_eq_true,decide_eq_true_eq] at hn
 all_goals first
  | rfl
  | (show ([27,91]++N9 1 [n])++_=[27,91]++(O3 n 1++_);rw [q1 (by omega)];exact List.append_assoc ..)
  | (show ([27,91]++N9 0 [n])++_=[27,91]++(O3 n 0++_);rw [q0 (by omega)];exact List.append_assoc ..)
  | (show ([27,91]++N9 1 [m])++_=[27,91]++(O3 m 1++_);rw [qm (by omega)];exact List.append_assoc ..)
  | (show ([27,91]++N9 1 [n,m])++_=[27,91]++(A5s n m 1++_);rw [t1 (by omega) (by omega)];exact List.append_assoc ..)
  | (show ([27,91]++N9 0 [n,m])++_=[27,91]++(A5s n m 0++_);rw [t0 (by omega) (by omega)];exact List.append_assoc ..)
  | (show ([27,91]++N9 (-2) [n])++_=[27,91]++(M4 (n.toNat+1) n++_);rw [qd (by omega)];exact List.append_assoc ..)
  | (obtain e | e:n=0∨n=1:=by omega)<;>subst e<;>rfl
  | (obtain e | e:n=2∨n=3:=by omega)<;>subst e<;>rfl
  | (show (([27,91]++[63])++N9 (-2) [n])++_=[27,91]++(([63]++M4 (n.toNat+1) n)++_);rw [qd (by omega)];simp only [List.append_assoc];rfl)
  | (obtain e | e:m=0∨m=1:=by omega)<;>subst e<;>(show (([27,91]++_)++N9 (-2) [n])++_=[27,91]++((_++M4 (n.toNat+1) n)++_);rw [qd (by omega)];simp only [List.append_assoc];rfl)
end Go.Proofs.YtanighkpfmgnbaaGreatDoor
set_option linter.unusedVariables false
set_option linter.unusedSimpArgs false
set_option linter.unnecessarySimpa false
set_option maxRecDepth 10000
namespace Go.Proofs.YtanighkpfmgnbaaGreatDoor
open Go Go.Fen
def A4b:Nat→List Act→Nat
 | 0,_=>0
 | _+1,[]=>0
 | k+1,a::r=>if a.kind=39 then A4b k r+1 else 0
theorem C5m:∀ (k:Nat) (l:List Act),A4b k l≤k∧A4b k l≤l.length
 | 0,l=>⟨Nat.le_refl _,Nat.zero_le _⟩
 | k+1,[]=>⟨Nat.zero_le _,Nat.le_refl _⟩
 | k+1,a::r=>by
  have:=C5m k r
  unfold A4b
  split
  ·simp only [List.length_cons];omega
  ·exact ⟨Nat.zero_le _,Nat.zero_le _⟩
theorem C7w:∀ (k:Nat) (l:List Act),∀ x ∈ l.take (A4b k l),x.kind=39
 | 0,l=>by simp [A4b]
 | k+1,[]=>by simp [A4b]
 | k+1,a::r=>by
  unfold A4b
  split
  ·rename_i h
   intro x hx
   rw [List.take_succ_cons] at hx
   rcases List.mem_cons.1 hx with rfl | hx
   ·exact h
   ·exact C7w k r x hx
  ·simp
theorem B5z {l:List Act} {n:Nat} (h:n<l.length):l.drop n=l.getD n Act.zero::l.drop (n+1):=by
 rw [gdE h];exact List.drop_eq_getElem_cons h
theorem D8e {l:List Act} {n k:Nat} (h:n<l.length) (hk:(l.getD n Act.zero).kind=39):A4b (k+1) (l.drop n)=A4b k (l.drop (n+1))+1:=by
 rw [B5z h];exact if_pos hk
theorem D4s {l:List Act} {n k:Nat} (h:¬ (n<l.length∧0<k∧(l.getD n Act.zero).kind=39)):A4b k (l.drop n)=0:=by
 cases k with
 | zero=>rfl
 | succ k =>
  by_cases h1:n<l.length
  ·rw [B5z h1];unfold A4b;rw [if_neg (fun e=>h ⟨h1,by omega,e⟩)]
  ·rw [List.drop_eq_nil_of_le (by omega)];rfl
def C7x:Nat→List Act→List UInt8
 | 0,_=>[]
 | _+1,[]=>[]
 | fu+1,a::r=>if A4b 16 (a::r)=0 then A7v a++C7x fu r else D7h ((a::r).take (A4b 16 (a::r)))++C7x fu ((a::r).drop (A4b 16 (a::r)))
theorem B9a:∀ (fu fu':Nat) (l:List Act),l.length<fu→l.length<fu'→C7x fu l=C7x fu' l
 | 0,_,_,h,_=>by omega
 | _,0,_,_,h=>by omega
 | fu+1,fu'+1,[],_,_=>rfl
 | fu+1,fu'+1,a::r,h,h'=>by
  simp only [List.length_cons] at h h'
  unfold C7x
  split
  ·rw [B9a fu fu' r (by omega) (by omega)]
  ·rw [B9a fu fu' _ (by rw [List.length_drop,List.length_cons];omega) (by rw [List.length_drop,List.length_cons];omega)]
def enc (l:List Act):List UInt8:=C7x (l.length+1) l
theorem D8b:enc []=[]:=rfl
theorem D9j {a:Act} {r:List Act} (h:A4b 16 (a::r)=0):enc (a::r)=A7v a++enc r:=by
 unfold enc
 rw [C7x,if_pos h];rfl
theorem D9i {l:List Act} (h:A4b 16 l≠0):enc l=D7h (l.take (A4b 16 l))++enc (l.drop (A4b 16 l)):=by
 cases l with
 | nil=>exact absurd rfl h
 | cons a r =>
  unfold enc
  rw [C7x,if_neg h,B9a (a::r).length (((a::r).drop (A4b 16 (a::r))).length+1) _ (by rw [List.length_drop,List.length_cons];omega) (by omega)]
def A4l (l:List Act):Prop:=∀ a ∈ l,S3 a=true
theorem A4l.drop {l:List Act} (h:A4l l) (n:Nat):A4l (l.drop n):=fun a ha=>h a (List.mem_of_mem_drop ha)
theorem A4l.take {l:List Act} (h:A4l l) (n:Nat):A4l (l.take n):=fun a ha=>h a (List.mem_of_mem_take ha)
theorem D4v {l:List Act} (h:A4l l) (k:Nat):∀ a ∈ l.take (A4b k l),Told a:=fun a ha=>C5a (C7w k l a ha) (h a (List.mem_of_mem_take ha))
theorem D7l {l:List Act} (h:A4l l):A2b (l.take (A4b 16 l))=D7h (l.take (A4b 16 l)) :=
 D1j (by rw [List.length_take];have:=(C5m 16 l).1;omega) (D4v h 16)
theorem eb5 (l:List Act) (ag:List UInt8→Int→List UInt8×Int) (b:List UInt8) (i:Nat):∀ (fu j:Nat),l.length - (i+j)<fu→j≤16 →
  Y8 l ag fu b (i:Int) ((i+j:Nat):Int)=if j+A4b (16 - j) (l.drop (i+j))=0 then ag (b++A1z (l.getD i Act.zero)) ((i:Int)+1)
   else ag (b++A2b ((l.drop i).take (j+A4b (16 - j) (l.drop (i+j))))) ((i+(j+A4b (16 - j) (l.drop (i+j))):Nat):Int)
 | 0,j,h,_=>by omega
 | fu+1,j,h,hj=>by
  rw [Y8]
  by_cases hc:i+j<l.length∧0<16 - j∧(l.getD (i+j) Act.zero).kind=39
  ·have e:(((decide (((i+j:Nat):Int)<(l.length:Int)))&&(decide (((i+j:Nat):Int)<((i:Int)+16))))&&(decide ((l.getD ((((i+j:Nat):Int)).toNat) Act.zero).kind=39)))=true:=by
    rw [Int.toNat_natCast];simp only [Bool.and_eq_true,decide_eq_true_eq];exact ⟨⟨by omega,by omega⟩,hc.2.2⟩
   rw [e,cond_true]
   have ih:=eb5 l ag b i fu (j+1) (by omega) (by omega)
   have e2:(((i+j:Nat):Int)+1)=((i+(j+1):Nat):Int):=by omega
   rw [e2,ih]
   obtain ⟨m,hm⟩:∃ m,16 - j=m+1:=⟨16 - j - 1,by omega⟩
   have e3:A4b (16 - j) (l.drop (i+j))=A4b (16 - (j+1)) (l.drop (i+(j+1)))+1:=by
    rw [hm,D8e hc.1 hc.2.2,show 16 - (j+1)=m by omega];rfl
   rw [e3,show j+1+A4b (16 - (j+1)) (l.drop (i+(j+1)))=j+(A4b (16 - (j+1)) (l.drop (i+(j+1)))+1) by omega]
  ·have e:(((decide (((i+j:Nat):Int)<(l.length:Int)))&&(decide (((i+j:Nat):Int)<((i:Int)+16))))&&(decide ((l.getD ((((i+j:Nat):Int)).toNat) Act.zero).kind=39)))=false:=by
    rw [Int.toNat_natCast]
    simp only [Bool.and_eq_false_iff,decide_eq_false_iff_not]
    by_cases h1:i+j<l.length
    ·by_cases h2:0<16 - j
     ·exact .inr (fun h3=>hc ⟨h1,h2,h3⟩)
     ·exact .inl (.inr (by omega))
    ·exact .inl (.inl (by omega))
   rw [e,cond_false,D4s hc]
   by_cases h0:j=0
   ·subst h0
    rw [decide_eq_true (by omega:((i+0:Nat):Int)=(i:Int)),cond_true,if_pos (by rfl),Int.toNat_natCast]
   ·rw [decide_eq_false (by omega:¬ ((i+j:Nat):Int)=(i:Int)),cond_false,if_neg (by omega),Int.toNat_natCast,Int.toNat_natCast,show i+j - i=j by omega]
    unfold B4
    rw [show (((i+j:Nat):Int) - 1)+1=((i+(j+0):Nat):Int) by omega];rfl
theorem eb4 (l:List Act) (hg:A4l l):∀ (fu i:Nat) (b:List UInt8),l.length - i<fu→i≤l.length→Q2 l fu b (i:Int)=(b++enc (l.drop i),0)
 | 0,i,b,h,_=>by omega
 | fu+1,i,b,h,hi=>by
  rw [Q2]
  by_cases hc:i<l.length
  ·rw [decide_eq_true (by omega:(i:Int)<(l.length:Int)),cond_true]
   have h5:=eb5 l (Q2 l fu) b i (((l.length:Int) - (i:Int)).toNat+1) 0 (by omega) (by omega)
   rw [show ((i+0:Nat):Int)=(i:Int) by omega] at h5
   rw [h5]
   simp only [Nat.zero_add,Nat.add_zero,Nat.sub_zero]
   have hd:=B5z hc
   by_cases h0:A4b 16 (l.drop i)=0
   ·rw [if_pos h0,show (i:Int)+1=((i+1:Nat):Int) by omega,eb4 l hg fu (i+1) _ (by omega) (by omega)]
    have ht:A1z (l.getD i Act.zero)=A7v (l.getD i Act.zero):=D6f (hg _ (by rw [gdE hc];exact List.getElem_mem hc))
    rw [ht,hd,D9j (by rw [← hd];exact h0),List.append_assoc]
   ·have hl:=C5m 16 (l.drop i)
    rw [List.length_drop] at hl
    rw [if_neg h0,eb4 l hg fu _ _ (by omega) (by omega),D7l (hg.drop i),D9i h0,List.drop_drop,List.append_assoc]
  ·rw [decide_eq_false (by omega:¬ (i:Int)<(l.length:Int)),cond_false,List.drop_eq_nil_of_le (by omega),D8b,List.append_nil]
theorem eb0 (L:List Act):∀ (l:List Act) (t:Nat),(∀ a ∈ l,N8 a=0)→S5 L l t=Q2 L (((L.length:Int) - 0).toNat+1) [] 0
 | [],t,_=>rfl
 | a::l,t,h=>by
  rw [S5,h a (List.mem_cons_self ..)]
  exact eb0 L l (t+1) (fun x hx=>h x (List.mem_cons_of_mem _ hx))
theorem D0p {l:List Act} (hl:l.length≤131072) (hm:∀ a ∈ l,E2a a.m) (hg:A4l l):J6 l=(enc l,0):=by
 unfold J6
 rw [decide_eq_false (by omega:¬ (131072:Int)<(l.length:Int)),cond_false,eb0 l l 0 (fun a ha=>(C8i (hm a ha)).2 (hg a ha))]
 have:=eb4 l hg (((l.length:Int) - 0).toNat+1) 0 [] (by omega) (Nat.zero_le _)
 rw [List.drop_zero,List.nil_append] at this
 exact this
end Go.Proofs.YtanighkpfmgnbaaGreatDoor
