import Derived.Test.YtanighkpfmgnbaaGreatDoorUN1
import Derived.Test.YtanighkpfmgnbaaGreatDoorUB5
set_option linter.unusedVariables false
set_option linter.unusedSimpArgs false
set_option linter.unnecessarySimpa false
set_option maxRecDepth 10000
namespace Go.Proofs.YtanighkpfmgnbaaGreatDoor
open Go Go.Fen
theorem B6q {α:Type} (a w:Act) (f:Unit→Option α):Option.bind (A6g a w) f=bif decide (a=w) then f () else none:=by
 unfold A6g X4
 cases decide (a=w)<;>rfl
theorem B1v {α:Type} (b:Bool) (f:Unit→Option α):Option.bind (X4 b) f=bif b then f () else none:=by
 unfold X4;cases b<;>rfl
theorem D3k {α:Type} (t:List UInt8) (x:α):Option.bind (A5w t) (fun _=>some x)=bif O7 t then some x else none:=by
 rw [← D2p];cases A5w t<;>rfl
theorem E2x (n m:Int) (c:Col) (t:List UInt8):A0h n m c t=D8 ⟨44,n,m,c,t⟩:=by
 unfold A0h U7 A5c
 rw [B1v,cond_true,B6q,D3k]
 have hB:decide ((⟨44,n,m,c,t⟩:Act)={Act.zero with kind:=45,n:=n,color:=c})=false:=decide_eq_false (fun h=>by injection h with h;exact absurd h (by decide))
 have hC:decide ((⟨44,n,m,c,t⟩:Act)={Act.zero with kind:=46,text:=t})=false:=decide_eq_false (fun h=>by injection h with h;exact absurd h (by decide))
 unfold D8
 simp only [hB,hC,Bool.false_and,cond_false]
 cases decide ((⟨44,n,m,c,t⟩:Act)={Act.zero with kind:=44,text:=t})<;>cases O7 t<;>rfl
theorem E2y (n m:Int) (c:Col) (t:List UInt8):X8 n m c t=D8 ⟨45,n,m,c,t⟩:=by
 unfold X8 R7 A5o
 rw [B1v,cond_true,B6q]
 have hA:decide ((⟨45,n,m,c,t⟩:Act)={Act.zero with kind:=44,text:=t})=false:=decide_eq_false (fun h=>by injection h with h;exact absurd h (by decide))
 have hC:decide ((⟨45,n,m,c,t⟩:Act)={Act.zero with kind:=46,text:=t})=false:=decide_eq_false (fun h=>by injection h with h;exact absurd h (by decide))
 unfold D8 B9
 simp only [hA,hC,Bool.false_and,cond_false]
 cases decide ((⟨45,n,m,c,t⟩:Act)={Act.zero with kind:=45,n:=n,color:=c}) with
 | false=>rfl
 | true =>
  simp only [B1v,cond_true,Bool.true_and]
  by_cases hk:c.kind=2
  ·by_cases h0:(0:Int)≤n
   ·rw [decide_eq_true hk,decide_eq_true h0,B7n h0]
    rcases D0w hk with e | ⟨e1,e2⟩
    ·rw [e]
     cases decide ((K9 c).2=0)<;>cases decide (n≤255)<;>rfl
    ·rw [decide_eq_false e1,decide_eq_false e2]
     cases decide (n≤255)<;>rfl
   ·rw [decide_eq_false h0]
    cases decide ((W0 c).2=0)<;>cases decide (c.kind=2)<;>rfl
  ·rw [decide_eq_false hk]
   cases decide ((W0 c).2=0)<;>cases decide ((0:Int)≤n)<;>cases decide (n≤255)<;>rfl
theorem E2q (n m:Int) (c:Col) (t:List UInt8):X9 n m c t=D8 ⟨46,n,m,c,t⟩:=by
 unfold X9 R5 A5p
 rw [B1v,cond_true,B6q]
 have hA:decide ((⟨46,n,m,c,t⟩:Act)={Act.zero with kind:=44,text:=t})=false:=decide_eq_false (fun h=>by injection h with h;exact absurd h (by decide))
 have hB:decide ((⟨46,n,m,c,t⟩:Act)={Act.zero with kind:=45,n:=n,color:=c})=false:=decide_eq_false (fun h=>by injection h with h;exact absurd h (by decide))
 unfold D8 B9
 simp only [hA,hB,Bool.false_and,cond_false]
 cases decide ((⟨46,n,m,c,t⟩:Act)={Act.zero with kind:=46,text:=t}) with
 | false=>rfl
 | true =>
  simp only [B1v,cond_true,Bool.true_and]
  by_cases h:(t.length:Int)≤378
  ·have h2:(W6 t).2=0:=by rw [B8s (by omega)]
   rw [decide_eq_true h,decide_eq_true h2,D8e (by omega)]
   rfl
  ·rw [decide_eq_false h];rfl
def D3p (n:Int):Prop:=-9223372036854775808≤n∧n≤9223372036854775807
theorem D3z {c:Bool}:(bif c then (200:Int) else 0)=0 ↔ c=false:=by cases c<;>decide
theorem B7y {c:Bool}:(bif !c then (200:Int) else 0)=0 ↔ c=true:=by cases c<;>decide
def C5l:List Int:=[17,18,19,20,26,27,35,38,40,41,2,3,4,5,6,8,9,10,11,12,13,15,16,7,14,42,21,33,22,23,24,25,28,29,30,31,32,34,36,37,43]
theorem D6b (k:Int):H5 k C0=C5l.contains k:=by rw [B1o];rfl
theorem C4n (lo hi n:Int):A5 ({Spn.zero with lo:=lo,hi:=hi}) n=(decide (lo≤n)&&decide (n≤hi)):=rfl
theorem E0t (n lo hi:Int):F8 n lo hi=(decide (lo≤n)&&decide (n≤hi)):=by unfold F8;rfl
theorem D5w (n:Int):(decide ((0:Int)≤n)&&decide (n≤0))=decide (n=0):=by
 by_cases h:n=0
 ·subst h;rfl
 ·rw [decide_eq_false h,Bool.and_eq_false_iff,decide_eq_false_iff_not,decide_eq_false_iff_not];omega
theorem C8l {a:Act} (hk:a.kind≠1) (h:C5l.contains a.kind=true):(D7 a.kind a.n&&F7 a.kind a.m)=L8 a:=by
 obtain ⟨k,n,m,c,t⟩:=a
 simp only [C5l,List.contains_cons,List.contains_nil,Bool.or_false,Bool.or_eq_true,beq_iff_eq] at h
 unfold L8 H2 S9 V9 I8 S5 K1
 rcases h with h | h | h | h | h | h | h | h | h | h | h | h | h | h | h | h | h | h | h | h | h | h | h | h | h | h | h | h | h | h | h | h | h | h | h | h | h | h | h | h | h<;>subst h <;>
  simp only [D7,F7,Int.reduceEq,decide_true,decide_false,cond_true,cond_false,C4n,E0t,D5w,W4]
theorem D4g {a:Act} (h1:a.kind≠1) (h39:a.kind≠39) (h44:a.kind≠44) (h45:a.kind≠45) (h46:a.kind≠46) (h:C5l.contains a.kind=false):L8 a=false:=by
 simp only [C5l,List.contains_cons,List.contains_nil,Bool.or_false,Bool.or_eq_false_iff,beq_eq_false_iff_ne,ne_eq] at h
 unfold L8 H2 S9 V9 I8 S5
 simp only [h,h1,decide_false,cond_false]
theorem D0m {a:Act} (hm:D3p a.m):O8 a=0 ↔ C8 a=true:=by
 unfold O8 C8 N0 B9
 by_cases h39:a.kind=39
 ·have e:(⟨39,a.n,a.m,a.color,a.text⟩:Act)=a:=by rw [← h39]
  rw [e,h39]
  show (bif (!decide (I1 a=0)) then (200:Int) else 0)=0 ↔ decide (M3 a=0)=true
  rw [B7y,decide_eq_true_iff,decide_eq_true_iff];exact E2m hm.1 hm.2
 rw [decide_eq_false h39,cond_false,cond_false]
 by_cases h44:a.kind=44
 ·have e:D8 a=A0h a.n a.m a.color a.text:=by rw [E2x,← h44]
  rw [e,h44]
  show (bif (!decide ((A0h a.n a.m a.color a.text).2=0)) then (200:Int) else 0)=0 ↔ decide ((A0h a.n a.m a.color a.text).2=0)=true
  rw [B7y,decide_eq_true_iff]
 by_cases h45:a.kind=45
 ·have e:D8 a=X8 a.n a.m a.color a.text:=by rw [E2y,← h45]
  rw [e,h45]
  show (bif (!decide ((X8 a.n a.m a.color a.text).2=0)) then (200:Int) else 0)=0 ↔ decide ((X8 a.n a.m a.color a.text).2=0)=true
  rw [B7y,decide_eq_true_iff]
 by_cases h46:a.kind=46
 ·have e:D8 a=X9 a.n a.m a.color a.text:=by rw [E2q,← h46]
  rw [e,h46]
  show (bif (!decide ((X9 a.n a.m a.color a.text).2=0)) then (200:Int) else 0)=0 ↔ decide ((X9 a.n a.m a.color a.text).2=0)=true
  rw [B7y,decide_eq_true_iff]
 simp only [h44,h45,h46,decide_false,cond_false]
 by_cases h1:a.kind=1
 ·rw [decide_eq_true h1,cond_true,D3z]
  have en:L8 a=((decide ((0:Int)≤(A3j a.n)))&&(decide (a.m=0))):=by unfold L8;rw [decide_eq_true h1,cond_true]
  rw [en,D8f]
  have ea:decide ((⟨1,a.n,a.m,a.color,a.text⟩:Act)=A2j a.kind a.n 0)=(decide (a.m=0)&&decide (a.color=Col.zero)&&decide (a.text=[])):=by
   rw [h1,show A2j 1 a.n 0=⟨1,a.n,0,Col.zero,[]⟩ from rfl]
   rw [Bool.eq_iff_iff]
   simp only [decide_eq_true_eq,Bool.and_eq_true,Act.mk.injEq,true_and]
   exact and_assoc.symm
  rw [ea]
  simp only [Bool.or_eq_false_iff,decide_eq_false_iff_not,Bool.not_eq_false',Bool.and_eq_true,decide_eq_true_eq,and_assoc,Int.not_lt]
 ·rw [decide_eq_false h1,cond_false,D3z,D6b]
  cases hN:C5l.contains a.kind with
  | false=>rw [D4g h1 h39 h44 h45 h46 hN];simp
  | true =>
   rw [← C8l h1 hN]
   simp only [Bool.or_eq_false_iff,Bool.not_eq_false',Bool.and_eq_true,decide_eq_true_eq,Bool.not_true,true_and,and_assoc]
theorem D4u {a:Act} (h:C8 a=true) (h1:a.kind≠1) (h39:a.kind≠39) (h44:a.kind≠44) (h45:a.kind≠45) (h46:a.kind≠46):C5l.contains a.kind=true∧L8 a=true:=by
 unfold C8 N0 at h
 rw [decide_eq_false h39,decide_eq_false h44,decide_eq_false h45,decide_eq_false h46] at h
 simp only [cond_false,Bool.and_eq_true] at h
 refine ⟨?_,h.1.1⟩
 cases hN:C5l.contains a.kind with
 | true=>rfl
 | false=>rw [D4g h1 h39 h44 h45 h46 hN] at h;exact absurd h.1.1 (by decide)
theorem E6m (n:Int) (hn:0≤n∧n≤9999):P0 (-2) [n]=D5 (n.toNat+1) n:=by
 rw [D4f (-2) hn,if_neg (by omega),B7n hn.1]
theorem D7b (k n:Int) (hn:0≤n∧n≤9999):P0 k [n]=J3 n k:=by rw [D4f k hn,C1z k hn.1]
theorem E2r (k n m:Int) (hn:0≤n∧n≤9999) (hm:0≤m∧m≤9999):P0 k [n,m]=A0k n m k:=by rw [E1w k hn hm,E3g k hn.1 hm.1]
theorem D8k {a:Act} (h:a.kind=39):A0m a=A6c [a]:=by
 unfold A0m B9;rw [h];rfl
theorem B8z {a:Act} (hk:a.kind=39) (h:C8 a=true):Told a:=by
 unfold C8 at h
 rw [decide_eq_true hk,cond_true,decide_eq_true_iff] at h
 exact A6k (D5i h)
set_option maxHeartbeats 4000000 in
theorem D7h {a:Act} (h:C8 a=true):A2a a=A0m a:=by
 by_cases h1:a.kind=1
 ·obtain ⟨k,n,m,c,t⟩:=a;dsimp only at h1;subst h1;exact D1y n
 by_cases h39:a.kind=39
 ·have hT:=B8z h39 h
  rw [D8k h39,C9y (Nat.le_of_ble_eq_true rfl) (fun x hx=>by rw [List.mem_singleton.1 hx];exact hT),← D4j (l:=[a]) (Nat.le_of_ble_eq_true rfl) (fun x hx=>by rw [List.mem_singleton.1 hx];exact hT)]
  obtain ⟨k,n,m,c,t⟩:=a;dsimp only at h39;subst h39;rfl
 by_cases h44:a.kind=44
 ·obtain ⟨k,n,m,c,t⟩:=a;dsimp only at h44;subst h44
  show ([27,93]++(A0h n m c t).1)++[27,92]=(([27,93]++(D8 ⟨44,n,m,c,t⟩).1)++[27])++[92]
  rw [E2x,List.append_assoc _ [27] [92]];rfl
 by_cases h45:a.kind=45
 ·obtain ⟨k,n,m,c,t⟩:=a;dsimp only at h45;subst h45
  show ([27,93]++(X8 n m c t).1)++[27,92]=(([27,93]++(D8 ⟨45,n,m,c,t⟩).1)++[27])++[92]
  rw [E2y,List.append_assoc _ [27] [92]];rfl
 by_cases h46:a.kind=46
 ·obtain ⟨k,n,m,c,t⟩:=a;dsimp only at h46;subst h46
  show ([27,93]++(X9 n m c t).1)++[27,92]=(([27,93]++(D8 ⟨46,n,m,c,t⟩).1)++[27])++[92]
  rw [E2q,List.append_assoc _ [27] [92]];rfl
 obtain ⟨hN,hn⟩:=D4u h h1 h39 h44 h45 h46
 rw [← C8l h1 hN] at hn
 clear h h1 h39 h44 h45 h46
 obtain ⟨k,n,m,c,t⟩:=a
 simp only [C5l,List.contains_cons,List.contains_nil,Bool.or_false,Bool.or_eq_true,beq_iff_eq] at hN
 have q1:=D7b 1 n
 have q0:=D7b 0 n
 have qm:=D7b 1 m
 have qd:=E6m n
 have t1:=E2r 1 n m
 have t0:=E2r 0 n m
 rcases hN with h | h | h | h | h | h | h | h | h | h | h | h | h | h | h | h | h | h | h | h | h | h | h | h | h | h | h | h | h | h | h | h | h | h | h | h | h | h | h | h | h<;>subst h <;>
  simp only [D7,F7,Int.reduceEq,decide_true,decide_false,cond_true,cond_false,C4n,W4,Bool.and_eq_true,Bool.or_eq_true,decide_eq_true_eq] at hn
 all_goals first
  | rfl
  | (show ([27,91]++P0 1 [n])++_=[27,91]++(J3 n 1++_);rw [q1 (by omega)];exact List.append_assoc ..)
  | (show ([27,91]++P0 0 [n])++_=[27,91]++(J3 n 0++_);rw [q0 (by omega)];exact List.append_assoc ..)
  | (show ([27,91]++P0 1 [m])++_=[27,91]++(J3 m 1++_);rw [qm (by omega)];exact List.append_assoc ..)
  | (show ([27,91]++P0 1 [n,m])++_=[27,91]++(A0k n m 1++_);rw [t1 (by omega) (by omega)];exact List.append_assoc ..)
  | (show ([27,91]++P0 0 [n,m])++_=[27,91]++(A0k n m 0++_);rw [t0 (by omega) (by omega)];exact List.append_assoc ..)
  | (show ([27,91]++P0 (-2) [n])++_=[27,91]++(D5 (n.toNat+1) n++_);rw [qd (by omega)];exact List.append_assoc ..)
  | (obtain e | e:n=0∨n=1:=by omega)<;>subst e<;>rfl
  | (obtain e | e:n=2∨n=3:=by omega)<;>subst e<;>rfl
  | (show (([27,91]++[63])++P0 (-2) [n])++_=[27,91]++(([63]++D5 (n.toNat+1) n)++_);rw [qd (by omega)];simp only [List.append_assoc];rfl)
  | (obtain e | e:m=0∨m=1:=by omega)<;>subst e<;>(show (([27,91]++_)++P0 (-2) [n])++_=[27,91]++((_++D5 (n.toNat+1) n)++_);rw [qd (by omega)];simp only [List.append_assoc];rfl)
end Go.Proofs.YtanighkpfmgnbaaGreatDoor
set_option linter.unusedVariables false
set_option linter.unusedSimpArgs false
set_option linter.unnecessarySimpa false
set_option maxRecDepth 10000
namespace Go.Proofs.YtanighkpfmgnbaaGreatDoor
open Go Go.Fen
def A1i:Nat→List Act→Nat
 | 0,_=>0
 | _+1,[]=>0
 | k+1,a::r=>if a.kind=39 then A1i k r+1 else 0
theorem C8i:∀ (k:Nat) (l:List Act),A1i k l≤k∧A1i k l≤l.length
 | 0,l=>⟨Nat.le_refl _,Nat.zero_le _⟩
 | k+1,[]=>⟨Nat.zero_le _,Nat.le_refl _⟩
 | k+1,a::r=>by
  have:=C8i k r
  unfold A1i
  split
  ·simp only [List.length_cons];omega
  ·exact ⟨Nat.zero_le _,Nat.zero_le _⟩
theorem C2x:∀ (k:Nat) (l:List Act),∀ x ∈ l.take (A1i k l),x.kind=39
 | 0,l=>by simp [A1i]
 | k+1,[]=>by simp [A1i]
 | k+1,a::r=>by
  unfold A1i
  split
  ·rename_i h
   intro x hx
   rw [List.take_succ_cons] at hx
   rcases List.mem_cons.1 hx with rfl | hx
   ·exact h
   ·exact C2x k r x hx
  ·simp
theorem B5x {l:List Act} {n:Nat} (h:n<l.length):l.drop n=l.getD n Act.zero::l.drop (n+1):=by
 rw [gdE h];exact List.drop_eq_getElem_cons h
theorem E1q {l:List Act} {n k:Nat} (h:n<l.length) (hk:(l.getD n Act.zero).kind=39):A1i (k+1) (l.drop n)=A1i k (l.drop (n+1))+1:=by
 rw [B5x h];exact if_pos hk
theorem D7i {l:List Act} {n k:Nat} (h:¬ (n<l.length∧0<k∧(l.getD n Act.zero).kind=39)):A1i k (l.drop n)=0:=by
 cases k with
 | zero=>rfl
 | succ k =>
  by_cases h1:n<l.length
  ·rw [B5x h1];unfold A1i;rw [if_neg (fun e=>h ⟨h1,by omega,e⟩)]
  ·rw [List.drop_eq_nil_of_le (by omega)];rfl
def D0u:Nat→List Act→List UInt8
 | 0,_=>[]
 | _+1,[]=>[]
 | fu+1,a::r=>if A1i 16 (a::r)=0 then A0m a++D0u fu r else C1h ((a::r).take (A1i 16 (a::r)))++D0u fu ((a::r).drop (A1i 16 (a::r)))
theorem B9q:∀ (fu fu':Nat) (l:List Act),l.length<fu→l.length<fu'→D0u fu l=D0u fu' l
 | 0,_,_,h,_=>by omega
 | _,0,_,_,h=>by omega
 | fu+1,fu'+1,[],_,_=>rfl
 | fu+1,fu'+1,a::r,h,h'=>by
  simp only [List.length_cons] at h h'
  unfold D0u
  split
  ·rw [B9q fu fu' r (by omega) (by omega)]
  ·rw [B9q fu fu' _ (by rw [List.length_drop,List.length_cons];omega) (by rw [List.length_drop,List.length_cons];omega)]
def enc (l:List Act):List UInt8:=D0u (l.length+1) l
theorem E2j:enc []=[]:=rfl
theorem B6w {a:Act} {r:List Act} (h:A1i 16 (a::r)=0):enc (a::r)=A0m a++enc r:=by
 unfold enc
 rw [D0u,if_pos h];rfl
theorem B7a {l:List Act} (h:A1i 16 l≠0):enc l=C1h (l.take (A1i 16 l))++enc (l.drop (A1i 16 l)):=by
 cases l with
 | nil=>exact absurd rfl h
 | cons a r =>
  unfold enc
  rw [D0u,if_neg h,B9q (a::r).length (((a::r).drop (A1i 16 (a::r))).length+1) _ (by rw [List.length_drop,List.length_cons];omega) (by omega)]
def A3g (l:List Act):Prop:=∀ a ∈ l,C8 a=true
theorem A3g.drop {l:List Act} (h:A3g l) (n:Nat):A3g (l.drop n):=fun a ha=>h a (List.mem_of_mem_drop ha)
theorem A3g.take {l:List Act} (h:A3g l) (n:Nat):A3g (l.take n):=fun a ha=>h a (List.mem_of_mem_take ha)
theorem D9i {l:List Act} (h:A3g l) (k:Nat):∀ a ∈ l.take (A1i k l),Told a:=fun a ha=>B8z (C2x k l a ha) (h a (List.mem_of_mem_take ha))
theorem D8u {l:List Act} (h:A3g l):A2l (l.take (A1i 16 l))=C1h (l.take (A1i 16 l)) :=
 D4j (by rw [List.length_take];have:=(C8i 16 l).1;omega) (D9i h 16)
theorem eb5 (l:List Act) (ag:List UInt8→Int→List UInt8×Int) (b:List UInt8) (i:Nat):∀ (fu j:Nat),l.length - (i+j)<fu→j≤16 →
  Z0 l ag fu b (i:Int) ((i+j:Nat):Int)=if j+A1i (16 - j) (l.drop (i+j))=0 then ag (b++A2a (l.getD i Act.zero)) ((i:Int)+1)
   else ag (b++A2l ((l.drop i).take (j+A1i (16 - j) (l.drop (i+j))))) ((i+(j+A1i (16 - j) (l.drop (i+j))):Nat):Int)
 | 0,j,h,_=>by omega
 | fu+1,j,h,hj=>by
  rw [Z0]
  by_cases hc:i+j<l.length∧0<16 - j∧(l.getD (i+j) Act.zero).kind=39
  ·have e:(((decide (((i+j:Nat):Int)<(l.length:Int)))&&(decide (((i+j:Nat):Int)<((i:Int)+16))))&&(decide ((l.getD ((((i+j:Nat):Int)).toNat) Act.zero).kind=39)))=true:=by
    rw [Int.toNat_natCast];simp only [Bool.and_eq_true,decide_eq_true_eq];exact ⟨⟨by omega,by omega⟩,hc.2.2⟩
   rw [e,cond_true]
   have ih:=eb5 l ag b i fu (j+1) (by omega) (by omega)
   have e2:(((i+j:Nat):Int)+1)=((i+(j+1):Nat):Int):=by omega
   rw [e2,ih]
   obtain ⟨m,hm⟩:∃ m,16 - j=m+1:=⟨16 - j - 1,by omega⟩
   have e3:A1i (16 - j) (l.drop (i+j))=A1i (16 - (j+1)) (l.drop (i+(j+1)))+1:=by
    rw [hm,E1q hc.1 hc.2.2,show 16 - (j+1)=m by omega];rfl
   rw [e3,show j+1+A1i (16 - (j+1)) (l.drop (i+(j+1)))=j+(A1i (16 - (j+1)) (l.drop (i+(j+1)))+1) by omega]
  ·have e:(((decide (((i+j:Nat):Int)<(l.length:Int)))&&(decide (((i+j:Nat):Int)<((i:Int)+16))))&&(decide ((l.getD ((((i+j:Nat):Int)).toNat) Act.zero).kind=39)))=false:=by
    rw [Int.toNat_natCast]
    simp only [Bool.and_eq_false_iff,decide_eq_false_iff_not]
    by_cases h1:i+j<l.length
    ·by_cases h2:0<16 - j
     ·exact .inr (fun h3=>hc ⟨h1,h2,h3⟩)
     ·exact .inl (.inr (by omega))
    ·exact .inl (.inl (by omega))
   rw [e,cond_false,D7i hc]
   by_cases h0:j=0
   ·subst h0
    rw [decide_eq_true (by omega:((i+0:Nat):Int)=(i:Int)),cond_true,if_pos (by rfl),Int.toNat_natCast]
   ·rw [decide_eq_false (by omega:¬ ((i+j:Nat):Int)=(i:Int)),cond_false,if_neg (by omega),Int.toNat_natCast,Int.toNat_natCast,show i+j - i=j by omega]
    unfold B9
    rw [show (((i+j:Nat):Int) - 1)+1=((i+(j+0):Nat):Int) by omega];rfl
theorem eb4 (l:List Act) (hg:A3g l):∀ (fu i:Nat) (b:List UInt8),l.length - i<fu→i≤l.length→R3 l fu b (i:Int)=(b++enc (l.drop i),0)
 | 0,i,b,h,_=>by omega
 | fu+1,i,b,h,hi=>by
  rw [R3]
  by_cases hc:i<l.length
  ·rw [decide_eq_true (by omega:(i:Int)<(l.length:Int)),cond_true]
   have h5:=eb5 l (R3 l fu) b i (((l.length:Int) - (i:Int)).toNat+1) 0 (by omega) (by omega)
   rw [show ((i+0:Nat):Int)=(i:Int) by omega] at h5
   rw [h5]
   simp only [Nat.zero_add,Nat.add_zero,Nat.sub_zero]
   have hd:=B5x hc
   by_cases h0:A1i 16 (l.drop i)=0
   ·rw [if_pos h0,show (i:Int)+1=((i+1:Nat):Int) by omega,eb4 l hg fu (i+1) _ (by omega) (by omega)]
    have ht:A2a (l.getD i Act.zero)=A0m (l.getD i Act.zero):=D7h (hg _ (by rw [gdE hc];exact List.getElem_mem hc))
    rw [ht,hd,B6w (by rw [← hd];exact h0),List.append_assoc]
   ·have hl:=C8i 16 (l.drop i)
    rw [List.length_drop] at hl
    rw [if_neg h0,eb4 l hg fu _ _ (by omega) (by omega),D8u (hg.drop i),B7a h0,List.drop_drop,List.append_assoc]
  ·rw [decide_eq_false (by omega:¬ (i:Int)<(l.length:Int)),cond_false,List.drop_eq_nil_of_le (by omega),E2j,List.append_nil]
theorem eb0 (L:List Act):∀ (l:List Act) (t:Nat),(∀ a ∈ l,O8 a=0)→U0 L l t=R3 L (((L.length:Int) - 0).toNat+1) [] 0
 | [],t,_=>rfl
 | a::l,t,h=>by
  rw [U0,h a (List.mem_cons_self ..)]
  exact eb0 L l (t+1) (fun x hx=>h x (List.mem_cons_of_mem _ hx))
theorem B5w {l:List Act} (hl:l.length≤131072) (hm:∀ a ∈ l,D3p a.m) (hg:A3g l):A1b l=(enc l,0):=by
 unfold A1b
 rw [decide_eq_false (by omega:¬ (131072:Int)<(l.length:Int)),cond_false,eb0 l l 0 (fun a ha=>(D0m (hm a ha)).2 (hg a ha))]
 have:=eb4 l hg (((l.length:Int) - 0).toNat+1) 0 [] (by omega) (Nat.zero_le _)
 rw [List.drop_zero,List.nil_append] at this
 exact this
end Go.Proofs.YtanighkpfmgnbaaGreatDoor
set_option linter.unusedVariables false
set_option linter.unusedSimpArgs false
set_option maxRecDepth 10000
namespace Go.Proofs.YtanighkpfmgnbaaGreatDoor
open Go Go.Fen
set_option maxRecDepth 100000 in
theorem D3m:A7a=true:=by decide +kernel
theorem C9t {a:Act} (h:(D8 a).2=0):a={Act.zero with kind:=44,text:=a.text}∨a={Act.zero with kind:=45,n:=a.n,color:=a.color}∨a={Act.zero with kind:=46,text:=a.text}:=by
 unfold D8 B9 at h
 simp only [Bool.cond_eq_ite] at h
 split at h
 ·rename_i e;simp only [Bool.and_eq_true,decide_eq_true_eq] at e;exact .inl e.1
 split at h
 ·rename_i e;simp only [Bool.and_eq_true,decide_eq_true_eq] at e;exact .inr (.inl e.1.1.1)
 split at h
 ·rename_i e;simp only [Bool.and_eq_true,decide_eq_true_eq] at e;exact .inr (.inr e.1)
 ·exact absurd h (by decide)
theorem E4a {a:Act} (h:B3d a):D3p a.m:=by
 have hp:∀ j<8,0≤pw8 j∧pw8 j≤1000:=by decide +kernel
 unfold D3p
 rcases h with rfl | ⟨j,hj,rfl⟩ | rfl | ⟨j,hj,h2,rfl⟩ | ⟨m,h0,h5,rfl⟩ | ⟨p,c,hp,hc,rfl⟩
 ·decide
 ·have:=hp j hj;show _≤pw8 j∧pw8 j≤_;omega
 ·decide
 ·have:=hp j hj;show _≤pw8 j∧pw8 j≤_;omega
 ·show _≤m∧m≤_;omega
 ·show _≤(0:Int)∧(0:Int)≤_;omega
theorem E1t {a:Act} (h:C8 a=true):D3p a.m:=by
 have hr:=B9u h
 by_cases h39:a.kind=39
 ·unfold C8 at h
  rw [decide_eq_true h39,cond_true,decide_eq_true_iff] at h
  exact E4a (D5i h)
 unfold C8 N0 B9 at h
 rw [decide_eq_false h39,cond_false] at h
 by_cases h4:a.kind=44∨a.kind=45∨a.kind=46
 ·have h8:(D8 a).2=0:=by
   rcases h4 with e | e | e<;>rw [e] at h<;>exact of_decide_eq_true h
  rcases C9t h8 with e | e | e<;>rw [e]<;>exact ⟨by show _≤(0:Int);omega,by show (0:Int)≤_;omega⟩
 ·simp only [show ¬ a.kind=44 by omega,show ¬ a.kind=45 by omega,show ¬ a.kind=46 by omega,decide_false,cond_false,Bool.and_eq_true] at h
  unfold D3p
  by_cases h1:a.kind=1
  ·have hn:=h.1.1
   unfold L8 at hn
   rw [decide_eq_true h1,cond_true] at hn
   simp only [Bool.and_eq_true,decide_eq_true_eq] at hn
   omega
  ·unfold D2c at hr;omega
theorem C8f {x:Int} (h0:0≤x) (h1:x≤16777215):F6 ⟨2,x⟩=0:=by
 rw [A5g]
 show (bif ((decide ((0:Int)≤x))&&(decide (x≤16777215))) then (0:Int) else 130)=0
 rw [decide_eq_true h0,decide_eq_true h1];rfl
theorem D7o {x:Int} (h0:0≤x) (h1:x≤255):F6 ⟨1,x⟩=0:=by
 rw [A5g]
 show (bif ((decide ((0:Int)≤x))&&(decide (x≤255))) then (0:Int) else 130)=0
 rw [decide_eq_true h0,decide_eq_true h1];rfl
theorem D0f:F6 Col.zero=0:=by decide +kernel
theorem E8m:∀ k<8,∃ j,j<8∧(([4,8,16,32,64,128]:List Int)++([1,2]:List Int)).getD k 0=pw8 j:=by
 intro k hk
 have:∀ k<8,(([4,8,16,32,64,128]:List Int)++([1,2]:List Int)).getD k 0=pw8 ((k+2) % 8):=by decide +kernel
 exact ⟨(k+2) % 8,by omega,this k hk⟩
theorem E7z:∀ k<7,(k=6∧(([4,8,16,32,64,128]:List Int)++([3]:List Int)).getD k 0=3)∨(k<6∧(([4,8,16,32,64,128]:List Int)++([3]:List Int)).getD k 0=pw8 (k+2)):=by decide +kernel
theorem E1e (d:Drf) (hd:A9l d):B3d (A3o d):=by
 unfold A9l at hd
 have hn:0≤d.n % 7∧d.n % 7<7:=by omega
 unfold A3o
 by_cases h1:d.n % 7=1
 ·obtain ⟨j,hj,e⟩:=E8m (d.m % 8).toNat (by omega)
  rw [decide_eq_true h1,cond_true,e,h1];exact .inr (.inl ⟨j,hj,rfl⟩)
 by_cases h2:d.n % 7=2
 ·rw [decide_eq_false h1,decide_eq_true h2,cond_false,cond_true,h2]
  rcases E7z (d.m % 7).toNat (by omega) with ⟨_,e⟩ | ⟨hk,e⟩
  ·rw [e];exact .inr (.inr (.inl rfl))
  ·rw [e];exact .inr (.inr (.inr (.inl ⟨_,by omega,by omega,rfl⟩)))
 by_cases h3:d.n % 7=3
 ·rw [decide_eq_false h1,decide_eq_false h2,decide_eq_true h3,cond_false,cond_false,cond_true,h3]
  exact .inr (.inr (.inr (.inr (.inl ⟨d.m % 6,by omega,by omega,rfl⟩))))
 have hj:∀ p:Int,(p=4∨p=5∨p=6)→d.n % 7=p→B3d (A0s d true):=by
  intro p hp e
  have key:∀ c:Col,F6 c=0→B3d {Act.zero with kind:=39,n:=(d.n % 7),color:=c}:=fun c hc=>.inr (.inr (.inr (.inr (.inr ⟨p,c,hp,hc,by rw [e];rfl⟩))))
  unfold A0s
  simp only [Bool.cond_eq_ite]
  repeat' split
  ·exact key _ (C8f (by omega) (by omega))
  ·exact key _ (D7o (by omega) (by omega))
  ·exact key _ (D7o (by omega) (by omega))
  ·exact key _ D0f
  ·exact key _ D0f
 by_cases h4:d.n % 7=4
 ·rw [decide_eq_false h1,decide_eq_false h2,decide_eq_false h3,decide_eq_true h4];exact hj 4 (by omega) h4
 by_cases h5:d.n % 7=5
 ·rw [decide_eq_false h1,decide_eq_false h2,decide_eq_false h3,decide_eq_false h4,decide_eq_true h5];exact hj 5 (by omega) h5
 by_cases h6:d.n % 7=6
 ·rw [decide_eq_false h1,decide_eq_false h2,decide_eq_false h3,decide_eq_false h4,decide_eq_false h5,decide_eq_true h6];exact hj 6 (by omega) h6
 ·have h0:d.n % 7=0:=by omega
  rw [decide_eq_false h1,decide_eq_false h2,decide_eq_false h3,decide_eq_false h4,decide_eq_false h5,decide_eq_false h6]
  show B3d {Act.zero with kind:=39,n:=(d.n % 7)}
  rw [h0];exact .inl rfl
theorem C7a (d:Drf) (i k:Nat) (ag:Nat→Act) (hag:C8 (ag (k+1))=true):∀ (fu b:Nat),5 - b<fu→C8 (M5 d i k ag fu b)=true
 | 0,_,h=>by omega
 | fu+1,b,h=>by
  rw [M5]
  by_cases hb:b<5
  ·rw [decide_eq_true (by omega:(b:Int)<5),cond_true]
   simp only [Bool.cond_eq_ite]
   split
   ·assumption
   split
   ·assumption
   split
   ·assumption
   ·exact C7a d i k ag hag fu (b+1) (by omega)
  ·rw [decide_eq_false (by omega:¬ (b:Int)<5),cond_false];exact hag
theorem C6i (d:Drf) (i:Nat) (ag:Nat→Act) (hag:C8 (ag (i+1))=true):∀ (fu k:Nat),5 - k<fu→C8 (K4 d i ag fu k)=true
 | 0,_,h=>by omega
 | fu+1,k,h=>by
  rw [K4]
  by_cases hb:k<5
  ·rw [decide_eq_true (by omega:(k:Int)<5),cond_true]
   exact C7a d i k _ (C6i d i ag hag fu (k+1) (by omega)) _ _ (by omega)
  ·rw [decide_eq_false (by omega:¬ (k:Int)<5),cond_false];exact hag
theorem D0y (d:Drf):∀ (fu i:Nat),5 - i<fu→C8 (J8 d fu i)=true
 | 0,_,h=>by omega
 | fu+1,i,h=>by
  rw [J8]
  by_cases hb:i<5
  ·rw [decide_eq_true (by omega:(i:Int)<5),cond_true]
   exact C6i d i _ (D0y d fu (i+1) (by omega)) _ _ (by omega)
  ·rw [decide_eq_false (by omega:¬ (i:Int)<5),cond_false];decide +kernel
theorem E2f {x:Int} (h:F6 ⟨2,x⟩=0):A1g ⟨2,x⟩=(x,true):=by
 unfold A1g;rw [h];rfl
theorem D6l {x:Int} (h:F6 ⟨2,x⟩=0):(W0 ⟨2,x⟩).2=0:=by
 unfold W0
 rw [h,E2f h];rfl
theorem D9h {x:Int} (h0:0≤x) (h1:x≤16777215):(K9 ⟨2,x⟩).2=0:=by
 have h:=D6l (C8f h0 h1)
 rcases D0w (c:=⟨2,x⟩) rfl with e | ⟨e,_⟩
 ·rw [← e];exact h
 ·exact absurd h e
theorem C2u (x y:Act) (hy:C8 y=true):C8 (bif (!(C8 x)) then y else x)=true:=by
 cases h:C8 x with
 | true=>exact h
 | false=>exact hy
theorem E1g {n x:Int} (hn:0≤n∧n≤255) (hx:0≤x∧x≤16777215):C8 ⟨45,n,0,⟨2,x⟩,[]⟩=true:=by
 have e5:=D9h hx.1 hx.2
 have e:C8 ⟨45,n,0,⟨2,x⟩,[]⟩=decide ((D8 ⟨45,n,0,⟨2,x⟩,[]⟩).2=0):=by
  unfold C8 N0
  simp only [Int.reduceEq,decide_true,decide_false,cond_true,cond_false,B9]
 rw [e,decide_eq_true_iff]
 have e4:decide ((⟨45,n,0,⟨2,x⟩,[]⟩:Act)={Act.zero with kind:=44,text:=[]})=false:=decide_eq_false (fun h=>by injection h with h;exact absurd h (by decide))
 have e45:decide ((⟨45,n,0,⟨2,x⟩,[]⟩:Act)={Act.zero with kind:=45,n:=n,color:=⟨2,x⟩})=true:=decide_eq_true rfl
 unfold D8
 simp only [e4,e45,B9,Bool.false_and,cond_false,decide_true,Bool.true_and,decide_eq_true hn.1,decide_eq_true hn.2,cond_true,e5]
theorem D7w:C8 {Act.zero with kind:=44,text:=[116]}=true:=by decide +kernel
theorem D8r:C8 {Act.zero with kind:=46,text:=[116]}=true:=by decide +kernel
theorem B8u {b:Bool} {x y:Act} (h1:b=true→C8 x=true) (h2:b=false→C8 y=true):C8 (bif b then x else y)=true:=by
 cases b with
 | true=>exact h1 rfl
 | false=>exact h2 rfl
theorem D5v {a:Act} (hp:B3d a):C8 a=true:=by
 have hT:=A6k hp
 have hk:a.kind=39:=by
  rcases hp with e | ⟨j,hj,e⟩ | e | ⟨j,hj,h2,e⟩ | ⟨m,h0,h5,e⟩ | ⟨p,c,hp,hc,e⟩<;>rw [e]<;>rfl
 unfold C8
 rw [decide_eq_true hk,cond_true,hT.rchk];rfl
theorem D6f (d:Drf) (hd:A9l d):C8 (I6 d)=true:=by
 have hp:=D5v (E1e d hd)
 have h8:=D0y d ((5 - 0)+1) 0 (by omega)
 unfold A9l at hd
 unfold I6
 have hw:0≤IntKind.i64.wrap ((1:Int)+d.kind % 46):=by rw [D6z (by omega:0≤(1:Int)+d.kind % 46∧(1:Int)+d.kind % 46≤1000000000)];omega
 generalize IntKind.i64.wrap ((1:Int)+d.kind % 46)=w at hw ⊢
 refine B8u (fun h=>?_) (fun h=>?_)
 ·rw [Bool.or_eq_true,decide_eq_true_iff,decide_eq_true_iff] at h
  rcases h with rfl | rfl
  ·exact C2u _ _ D7w
  ·exact C2u _ _ D8r
 ·refine B8u (fun h2=>?_) (fun h2=>?_)
  ·obtain rfl:=of_decide_eq_true h2
   exact E1g (by omega) (by omega)
  ·exact B8u (fun _=>hp) (fun _=>h8)
end Go.Proofs.YtanighkpfmgnbaaGreatDoor
set_option linter.unusedVariables false
set_option linter.unusedSimpArgs false
set_option maxRecDepth 10000
namespace Go.Proofs.YtanighkpfmgnbaaGreatDoor
open Go Go.Fen
theorem C9r (l:List Drf) (hd:∀ d ∈ l,A9l d):∀ (fu:Nat) (out:List Act) (i:Nat),A3g out→A3g (W9 l fu out i)
 | 0,_,_,_=>fun a ha=>by cases ha
 | fu+1,out,i,h=>by
  rw [W9]
  by_cases hc:(i:Int)<(l.length:Int)∧(i:Int)<40
  ·rw [decide_eq_true hc.1,decide_eq_true hc.2]
   refine C9r l hd fu _ _ ?_
   intro a ha
   rcases List.mem_append.1 ha with ha | ha
   ·exact h a ha
   ·rw [List.mem_singleton.1 ha]
    exact D6f _ (hd _ (by rw [gdE (by omega)];exact List.getElem_mem (by omega)))
  ·have e:((decide ((i:Int)<(l.length:Int)))&&(decide ((i:Int)<40)))=false:=by
    rw [Bool.and_eq_false_iff,decide_eq_false_iff_not,decide_eq_false_iff_not];omega
   rw [e,cond_false];exact h
theorem B6z (l:List Drf) (hd:∀ d ∈ l,A9l d):A3g (A3p l):=C9r l hd _ _ _ (fun a ha=>by cases ha)
end Go.Proofs.YtanighkpfmgnbaaGreatDoor
set_option linter.unusedVariables false
set_option linter.unusedSimpArgs false
set_option maxRecDepth 10000
namespace Go.Proofs.YtanighkpfmgnbaaGreatDoor
open Go Go.Fen
theorem B8e {a:Act} {r:List Act} {k:Nat} (h:a.kind≠39):A1i k (a::r)=0:=by
 cases k with
 | zero=>rfl
 | succ k=>exact if_neg h
theorem B1k {a:Act} {r:List Act} {k:Nat} (h:a.kind=39):A1i (k+1) (a::r)=A1i k r+1:=if_pos h
theorem E3c (cp:Int):A6q cp≠[]:=by
 unfold A6q A3i
 simp only [Bool.cond_eq_ite]
 repeat' split
 all_goals exact List.cons_ne_nil _ _
theorem E5o {a:Act} (h:C8 a=true):A0m a≠[]:=by
 by_cases h39:a.kind=39
 ·rw [D8k h39,C9y (Nat.le_of_ble_eq_true rfl) (fun x hx=>by rw [List.mem_singleton.1 hx];exact B8z h39 h)]
  exact List.cons_ne_nil _ _
 unfold A0m B9
 rw [← D1y]
 simp only [Bool.cond_eq_ite,Bool.not_eq_true',decide_eq_false_iff_not,decide_eq_true_eq]
 repeat' split
 all_goals first|exact E3c _|assumption|exact List.cons_ne_nil _ _|contradiction
end Go.Proofs.YtanighkpfmgnbaaGreatDoor
