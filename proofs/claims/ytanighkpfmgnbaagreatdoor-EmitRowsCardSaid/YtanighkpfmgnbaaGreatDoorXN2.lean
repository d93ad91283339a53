import Derived.Test.YtanighkpfmgnbaaGreatDoorXN1
import Derived.Test.YtanighkpfmgnbaaGreatDoorXB5
set_option linter.unusedVariables false
set_option linter.unusedSimpArgs false
set_option linter.unnecessarySimpa false
set_option maxRecDepth 10000
namespace Go.Proofs.YtanighkpfmgnbaaGreatDoor
open Go Go.Fen
theorem B7b {α:Type} (a w:Act) (f:Unit→Option α):Option.bind (A7l a w) f=bif decide (a=w) then f () else none:=by
 unfold A7l Y6
 cases decide (a=w)<;>rfl
theorem B3b {α:Type} (b:Bool) (f:Unit→Option α):Option.bind (Y6 b) f=bif b then f () else none:=by
 unfold Y6;cases b<;>rfl
theorem D2g {α:Type} (t:List UInt8) (x:α):Option.bind (A6y t) (fun _=>some x)=bif X0 t then some x else none:=by
 rw [← D3h];cases A6y t<;>rfl
theorem E1x (n m:Int) (c:Col) (t:List UInt8):A0w n m c t=I7 ⟨44,n,m,c,t⟩:=by
 unfold A0w W9 A6u
 rw [B3b,cond_true,B7b,D2g]
 have hB:decide ((⟨44,n,m,c,t⟩:Act)={Act.zero with kind:=45,n:=n,color:=c})=false:=decide_eq_false (fun h=>by injection h with h;exact absurd h (by decide))
 have hC:decide ((⟨44,n,m,c,t⟩:Act)={Act.zero with kind:=46,text:=t})=false:=decide_eq_false (fun h=>by injection h with h;exact absurd h (by decide))
 unfold I7
 simp only [hB,hC,Bool.false_and,cond_false]
 cases decide ((⟨44,n,m,c,t⟩:Act)={Act.zero with kind:=44,text:=t})<;>cases X0 t<;>rfl
theorem E1z (n m:Int) (c:Col) (t:List UInt8):Z3 n m c t=I7 ⟨45,n,m,c,t⟩:=by
 unfold Z3 U5 A6m
 rw [B3b,cond_true,B7b]
 have hA:decide ((⟨45,n,m,c,t⟩:Act)={Act.zero with kind:=44,text:=t})=false:=decide_eq_false (fun h=>by injection h with h;exact absurd h (by decide))
 have hC:decide ((⟨45,n,m,c,t⟩:Act)={Act.zero with kind:=46,text:=t})=false:=decide_eq_false (fun h=>by injection h with h;exact absurd h (by decide))
 unfold I7 B8
 simp only [hA,hC,Bool.false_and,cond_false]
 cases decide ((⟨45,n,m,c,t⟩:Act)={Act.zero with kind:=45,n:=n,color:=c}) with
 | false=>rfl
 | true =>
  simp only [B3b,cond_true,Bool.true_and]
  by_cases hk:c.kind=2
  ·by_cases h0:(0:Int)≤n
   ·rw [decide_eq_true hk,decide_eq_true h0,C3k h0]
    rcases D1j hk with e | ⟨e1,e2⟩
    ·rw [e]
     cases decide ((A0q c).2=0)<;>cases decide (n≤255)<;>rfl
    ·rw [decide_eq_false e1,decide_eq_false e2]
     cases decide (n≤255)<;>rfl
   ·rw [decide_eq_false h0]
    cases decide ((X6 c).2=0)<;>cases decide (c.kind=2)<;>rfl
  ·rw [decide_eq_false hk]
   cases decide ((X6 c).2=0)<;>cases decide ((0:Int)≤n)<;>cases decide (n≤255)<;>rfl
theorem E2c (n m:Int) (c:Col) (t:List UInt8):Z5 n m c t=I7 ⟨46,n,m,c,t⟩:=by
 unfold Z5 U2 A6t
 rw [B3b,cond_true,B7b]
 have hA:decide ((⟨46,n,m,c,t⟩:Act)={Act.zero with kind:=44,text:=t})=false:=decide_eq_false (fun h=>by injection h with h;exact absurd h (by decide))
 have hB:decide ((⟨46,n,m,c,t⟩:Act)={Act.zero with kind:=45,n:=n,color:=c})=false:=decide_eq_false (fun h=>by injection h with h;exact absurd h (by decide))
 unfold I7 B8
 simp only [hA,hB,Bool.false_and,cond_false]
 cases decide ((⟨46,n,m,c,t⟩:Act)={Act.zero with kind:=46,text:=t}) with
 | false=>rfl
 | true =>
  simp only [B3b,cond_true,Bool.true_and]
  by_cases h:(t.length:Int)≤378
  ·have h2:(Y2 t).2=0:=by rw [C6t (by omega)]
   rw [decide_eq_true h,decide_eq_true h2,E2j (by omega)]
   rfl
  ·rw [decide_eq_false h];rfl
theorem D5u (a:Act):M2 a=0∨M2 a=200:=by
 unfold M2 B8
 simp only [Bool.cond_eq_ite]
 repeat' split
 all_goals first|exact .inl rfl|exact .inr rfl
def B4m (n:Int):Prop:=-9223372036854775808≤n∧n≤9223372036854775807
theorem D4i {c:Bool}:(bif c then (200:Int) else 0)=0 ↔ c=false:=by cases c<;>decide
theorem B8x {c:Bool}:(bif !c then (200:Int) else 0)=0 ↔ c=true:=by cases c<;>decide
def C7k:List Int:=[17,18,19,20,26,27,35,38,40,41,2,3,4,5,6,8,9,10,11,12,13,15,16,7,14,42,21,33,22,23,24,25,28,29,30,31,32,34,36,37,43]
theorem D6c (k:Int):H8 k C0=C7k.contains k:=by rw [B2s];rfl
theorem C9p (lo hi n:Int):A8 ({Spn.zero with lo:=lo,hi:=hi}) n=(decide (lo≤n)&&decide (n≤hi)):=rfl
theorem E0s (n lo hi:Int):F7 n lo hi=(decide (lo≤n)&&decide (n≤hi)):=by unfold F7;rfl
theorem D5p (n:Int):(decide ((0:Int)≤n)&&decide (n≤0))=decide (n=0):=by
 by_cases h:n=0
 ·subst h;rfl
 ·rw [decide_eq_false h,Bool.and_eq_false_iff,decide_eq_false_iff_not,decide_eq_false_iff_not];omega
theorem D3v {a:Act} (hk:a.kind≠1) (h:C7k.contains a.kind=true):(F2 a.kind a.n&&F6 a.kind a.m)=N3 a:=by
 obtain ⟨k,n,m,c,t⟩:=a
 simp only [C7k,List.contains_cons,List.contains_nil,Bool.or_false,Bool.or_eq_true,beq_iff_eq] at h
 unfold N3 H5 U8 X8 J1 V3 K3
 rcases h with h | h | h | h | h | h | h | h | h | h | h | h | h | h | h | h | h | h | h | h | h | h | h | h | h | h | h | h | h | h | h | h | h | h | h | h | h | h | h | h | h<;>subst h <;>
  simp only [F2,F6,Int.reduceEq,decide_true,decide_false,cond_true,cond_false,C9p,E0s,D5p,A0k]
theorem D4d {a:Act} (h1:a.kind≠1) (h39:a.kind≠39) (h44:a.kind≠44) (h45:a.kind≠45) (h46:a.kind≠46) (h:C7k.contains a.kind=false):N3 a=false:=by
 simp only [C7k,List.contains_cons,List.contains_nil,Bool.or_false,Bool.or_eq_false_iff,beq_eq_false_iff_ne,ne_eq] at h
 unfold N3 H5 U8 X8 J1 V3
 simp only [h,h1,decide_false,cond_false]
theorem C0g {a:Act} (hm:B4m a.m):M2 a=0 ↔ C9 a=true:=by
 unfold M2 C9 S4 B8
 by_cases h39:a.kind=39
 ·have e:(⟨39,a.n,a.m,a.color,a.text⟩:Act)=a:=by rw [← h39]
  rw [e,h39]
  show (bif (!decide (I6 a=0)) then (200:Int) else 0)=0 ↔ decide (L6 a=0)=true
  rw [B8x,decide_eq_true_iff,decide_eq_true_iff];exact E0e hm.1 hm.2
 rw [decide_eq_false h39,cond_false,cond_false]
 by_cases h44:a.kind=44
 ·have e:I7 a=A0w a.n a.m a.color a.text:=by rw [E1x,← h44]
  rw [e,h44]
  show (bif (!decide ((A0w a.n a.m a.color a.text).2=0)) then (200:Int) else 0)=0 ↔ decide ((A0w a.n a.m a.color a.text).2=0)=true
  rw [B8x,decide_eq_true_iff]
 by_cases h45:a.kind=45
 ·have e:I7 a=Z3 a.n a.m a.color a.text:=by rw [E1z,← h45]
  rw [e,h45]
  show (bif (!decide ((Z3 a.n a.m a.color a.text).2=0)) then (200:Int) else 0)=0 ↔ decide ((Z3 a.n a.m a.color a.text).2=0)=true
  rw [B8x,decide_eq_true_iff]
 by_cases h46:a.kind=46
 ·have e:I7 a=Z5 a.n a.m a.color a.text:=by rw [E2c,← h46]
  rw [e,h46]
  show (bif (!decide ((Z5 a.n a.m a.color a.text).2=0)) then (200:Int) else 0)=0 ↔ decide ((Z5 a.n a.m a.color a.text).2=0)=true
  rw [B8x,decide_eq_true_iff]
 simp only [h44,h45,h46,decide_false,cond_false]
 by_cases h1:a.kind=1
 ·rw [decide_eq_true h1,cond_true,D4i]
  have en:N3 a=((decide ((0:Int)≤(A7t a.n)))&&(decide (a.m=0))):=by unfold N3;rw [decide_eq_true h1,cond_true]
  rw [en,D7h]
  have ea:decide ((⟨1,a.n,a.m,a.color,a.text⟩:Act)=A3k a.kind a.n 0)=(decide (a.m=0)&&decide (a.color=Col.zero)&&decide (a.text=[])):=by
   rw [h1,show A3k 1 a.n 0=⟨1,a.n,0,Col.zero,[]⟩ from rfl]
   rw [Bool.eq_iff_iff]
   simp only [decide_eq_true_eq,Bool.and_eq_true,Act.mk.injEq,true_and]
   exact and_assoc.symm
  rw [ea]
  simp only [Bool.or_eq_false_iff,decide_eq_false_iff_not,Bool.not_eq_false',Bool.and_eq_true,decide_eq_true_eq,and_assoc,Int.not_lt]
 ·rw [decide_eq_false h1,cond_false,D4i,D6c]
  cases hN:C7k.contains a.kind with
  | false=>rw [D4d h1 h39 h44 h45 h46 hN];simp
  | true =>
   rw [← D3v h1 hN]
   simp only [Bool.or_eq_false_iff,Bool.not_eq_false',Bool.and_eq_true,decide_eq_true_eq,Bool.not_true,true_and,and_assoc]
theorem E0o {a:Act} (h:C9 a=true) (h1:a.kind≠1) (h39:a.kind≠39) (h44:a.kind≠44) (h45:a.kind≠45) (h46:a.kind≠46):C7k.contains a.kind=true∧N3 a=true:=by
 unfold C9 S4 at h
 rw [decide_eq_false h39,decide_eq_false h44,decide_eq_false h45,decide_eq_false h46] at h
 simp only [cond_false,Bool.and_eq_true] at h
 refine ⟨?_,h.1.1⟩
 cases hN:C7k.contains a.kind with
 | true=>rfl
 | false=>rw [D4d h1 h39 h44 h45 h46 hN] at h;exact absurd h.1.1 (by decide)
theorem E6b (n:Int) (hn:0≤n∧n≤9999):P3 (-2) [n]=D9 (n.toNat+1) n:=by
 rw [D4s (-2) hn,if_neg (by omega),C3k hn.1]
theorem D9j (k n:Int) (hn:0≤n∧n≤9999):P3 k [n]=N4 n k:=by rw [D4s k hn,C8b k hn.1]
theorem E1w (k n m:Int) (hn:0≤n∧n≤9999) (hm:0≤m∧m≤9999):P3 k [n,m]=A2c n m k:=by rw [E0j k hn hm,E3k k hn.1 hm.1]
theorem E3n {a:Act} (h:a.kind=39):Y9 a=X9 [a]:=by
 unfold Y9 B8;rw [h];rfl
theorem C7a {a:Act} (hk:a.kind=39) (h:C9 a=true):Told a:=by
 unfold C9 at h
 rw [decide_eq_true hk,cond_true,decide_eq_true_iff] at h
 exact B6a (D7l h)
set_option maxHeartbeats 4000000 in
theorem D8j {a:Act} (h:C9 a=true):A2x a=Y9 a:=by
 by_cases h1:a.kind=1
 ·obtain ⟨k,n,m,c,t⟩:=a;dsimp only at h1;subst h1;exact D7s n
 by_cases h39:a.kind=39
 ·have hT:=C7a h39 h
  rw [E3n h39,D1g (Nat.le_of_ble_eq_true rfl) (fun x hx=>by rw [List.mem_singleton.1 hx];exact hT),← D5h (l:=[a]) (Nat.le_of_ble_eq_true rfl) (fun x hx=>by rw [List.mem_singleton.1 hx];exact hT)]
  obtain ⟨k,n,m,c,t⟩:=a;dsimp only at h39;subst h39;rfl
 by_cases h44:a.kind=44
 ·obtain ⟨k,n,m,c,t⟩:=a;dsimp only at h44;subst h44
  show ([27,93]++(A0w n m c t).1)++[27,92]=(([27,93]++(I7 ⟨44,n,m,c,t⟩).1)++[27])++[92]
  rw [E1x,List.append_assoc _ [27] [92]];rfl
 by_cases h45:a.kind=45
 ·obtain ⟨k,n,m,c,t⟩:=a;dsimp only at h45;subst h45
  show ([27,93]++(Z3 n m c t).1)++[27,92]=(([27,93]++(I7 ⟨45,n,m,c,t⟩).1)++[27])++[92]
  rw [E1z,List.append_assoc _ [27] [92]];rfl
 by_cases h46:a.kind=46
 ·obtain ⟨k,n,m,c,t⟩:=a;dsimp only at h46;subst h46
  show ([27,93]++(Z5 n m c t).1)++[27,92]=(([27,93]++(I7 ⟨46,n,m,c,t⟩).1)++[27])++[92]
  rw [E2c,List.append_assoc _ [27] [92]];rfl
 obtain ⟨hN,hn⟩:=E0o h h1 h39 h44 h45 h46
 rw [← D3v h1 hN] at hn
 clear h h1 h39 h44 h45 h46
 obtain ⟨k,n,m,c,t⟩:=a
 simp only [C7k,List.contains_cons,List.contains_nil,Bool.or_false,Bool.or_eq_true,beq_iff_eq] at hN
 have q1:=D9j 1 n
 have q0:=D9j 0 n
 have qm:=D9j 1 m
 have qd:=E6b n
 have t1:=E1w 1 n m
 have t0:=E1w 0 n m
 rcases hN with h | h | h | h | h | h | h | h | h | h | h | h | h | h | h | h | h | h | h | h | h | h | h | h | h | h | h | h | h | h | h | h | h | h | h | h | h | h | h | h | h<;>subst h <;>
  simp only [F2,F6,Int.reduceEq,decide_true,decide_false,cond_true,cond_false,C9p,A0k,Bool.and_eq_true,Bool.or_eq_true,decide_eq_true_eq] at hn
 all_goals first
  | rfl
  | (show ([27,91]++P3 1 [n])++_=[27,91]++(N4 n 1++_);rw [q1 (by omega)];exact List.append_assoc ..)
  | (show ([27,91]++P3 0 [n])++_=[27,91]++(N4 n 0++_);rw [q0 (by omega)];exact List.append_assoc ..)
  | (show ([27,91]++P3 1 [m])++_=[27,91]++(N4 m 1++_);rw [qm (by omega)];exact List.append_assoc ..)
  | (show ([27,91]++P3 1 [n,m])++_=[27,91]++(A2c n m 1++_);rw [t1 (by omega) (by omega)];exact List.append_assoc ..)
  | (show ([27,91]++P3 0 [n,m])++_=[27,91]++(A2c n m 0++_);rw [t0 (by omega) (by omega)];exact List.append_assoc ..)
  | (show ([27,91]++P3 (-2) [n])++_=[27,91]++(D9 (n.toNat+1) n++_);rw [qd (by omega)];exact List.append_assoc ..)
  | (obtain e | e:n=0∨n=1:=by omega)<;>subst e<;>rfl
  | (obtain e | e:n=2∨n=3:=by omega)<;>subst e<;>rfl
  | (show (([27,91]++[63])++P3 (-2) [n])++_=[27,91]++(([63]++D9 (n.toNat+1) n)++_);rw [qd (by omega)];simp only [List.append_assoc];rfl)
  | (obtain e | e:m=0∨m=1:=by omega)<;>subst e<;>(show (([27,91]++_)++P3 (-2) [n])++_=[27,91]++((_++D9 (n.toNat+1) n)++_);rw [qd (by omega)];simp only [List.append_assoc];rfl)
end Go.Proofs.YtanighkpfmgnbaaGreatDoor
set_option linter.unusedVariables false
set_option linter.unusedSimpArgs false
set_option linter.unnecessarySimpa false
set_option maxRecDepth 10000
namespace Go.Proofs.YtanighkpfmgnbaaGreatDoor
open Go Go.Fen
def A1t:Nat→List Act→Nat
 | 0,_=>0
 | _+1,[]=>0
 | k+1,a::r=>if a.kind=39 then A1t k r+1 else 0
theorem C2c:∀ (k:Nat) (l:List Act),A1t k l≤k∧A1t k l≤l.length
 | 0,l=>⟨Nat.le_refl _,Nat.zero_le _⟩
 | k+1,[]=>⟨Nat.zero_le _,Nat.le_refl _⟩
 | k+1,a::r=>by
  have:=C2c k r
  unfold A1t
  split
  ·simp only [List.length_cons];omega
  ·exact ⟨Nat.zero_le _,Nat.zero_le _⟩
theorem D0b:∀ (k:Nat) (l:List Act),∀ x ∈ l.take (A1t k l),x.kind=39
 | 0,l=>by simp [A1t]
 | k+1,[]=>by simp [A1t]
 | k+1,a::r=>by
  unfold A1t
  split
  ·rename_i h
   intro x hx
   rw [List.take_succ_cons] at hx
   rcases List.mem_cons.1 hx with rfl | hx
   ·exact h
   ·exact D0b k r x hx
  ·simp
theorem B7a {l:List Act} {n:Nat} (h:n<l.length):l.drop n=l.getD n Act.zero::l.drop (n+1):=by
 rw [gdE h];exact List.drop_eq_getElem_cons h
theorem D4j {l:List Act} {n k:Nat} (h:n<l.length) (hk:(l.getD n Act.zero).kind=39):A1t (k+1) (l.drop n)=A1t k (l.drop (n+1))+1:=by
 rw [B7a h];exact if_pos hk
theorem D1u {l:List Act} {n k:Nat} (h:¬ (n<l.length∧0<k∧(l.getD n Act.zero).kind=39)):A1t k (l.drop n)=0:=by
 cases k with
 | zero=>rfl
 | succ k =>
  by_cases h1:n<l.length
  ·rw [B7a h1];unfold A1t;rw [if_neg (fun e=>h ⟨h1,by omega,e⟩)]
  ·rw [List.drop_eq_nil_of_le (by omega)];rfl
def C9n:Nat→List Act→List UInt8
 | 0,_=>[]
 | _+1,[]=>[]
 | fu+1,a::r=>if A1t 16 (a::r)=0 then Y9 a++C9n fu r else D6g ((a::r).take (A1t 16 (a::r)))++C9n fu ((a::r).drop (A1t 16 (a::r)))
theorem B9z:∀ (fu fu':Nat) (l:List Act),l.length<fu→l.length<fu'→C9n fu l=C9n fu' l
 | 0,_,_,h,_=>by omega
 | _,0,_,_,h=>by omega
 | fu+1,fu'+1,[],_,_=>rfl
 | fu+1,fu'+1,a::r,h,h'=>by
  simp only [List.length_cons] at h h'
  unfold C9n
  split
  ·rw [B9z fu fu' r (by omega) (by omega)]
  ·rw [B9z fu fu' _ (by rw [List.length_drop,List.length_cons];omega) (by rw [List.length_drop,List.length_cons];omega)]
def enc (l:List Act):List UInt8:=C9n (l.length+1) l
theorem D3u:enc []=[]:=rfl
theorem D3q {a:Act} {r:List Act} (h:A1t 16 (a::r)=0):enc (a::r)=Y9 a++enc r:=by
 unfold enc
 rw [C9n,if_pos h];rfl
theorem D3p {l:List Act} (h:A1t 16 l≠0):enc l=D6g (l.take (A1t 16 l))++enc (l.drop (A1t 16 l)):=by
 cases l with
 | nil=>exact absurd rfl h
 | cons a r =>
  unfold enc
  rw [C9n,if_neg h,B9z (a::r).length (((a::r).drop (A1t 16 (a::r))).length+1) _ (by rw [List.length_drop,List.length_cons];omega) (by omega)]
def A7s (l:List Act):Prop:=∀ a ∈ l,C9 a=true
theorem A7s.drop {l:List Act} (h:A7s l) (n:Nat):A7s (l.drop n):=fun a ha=>h a (List.mem_of_mem_drop ha)
theorem A7s.take {l:List Act} (h:A7s l) (n:Nat):A7s (l.take n):=fun a ha=>h a (List.mem_of_mem_take ha)
theorem D1l {l:List Act} (h:A7s l) (k:Nat):∀ a ∈ l.take (A1t k l),Told a:=fun a ha=>C7a (D0b k l a ha) (h a (List.mem_of_mem_take ha))
theorem D8b {l:List Act} (h:A7s l):A3h (l.take (A1t 16 l))=D6g (l.take (A1t 16 l)) :=
 D5h (by rw [List.length_take];have:=(C2c 16 l).1;omega) (D1l h 16)
theorem D5m {l:List Act} (h:A7s l):X9 (l.take (A1t 16 l))=D6g (l.take (A1t 16 l)) :=
 D1g (by rw [List.length_take];have:=(C2c 16 l).1;omega) (D1l h 16)
theorem eb5 (l:List Act) (ag:List UInt8→Int→List UInt8×Int) (b:List UInt8) (i:Nat):∀ (fu j:Nat),l.length - (i+j)<fu→j≤16 →
  A0g l ag fu b (i:Int) ((i+j:Nat):Int)=if j+A1t (16 - j) (l.drop (i+j))=0 then ag (b++A2x (l.getD i Act.zero)) ((i:Int)+1)
   else ag (b++A3h ((l.drop i).take (j+A1t (16 - j) (l.drop (i+j))))) ((i+(j+A1t (16 - j) (l.drop (i+j))):Nat):Int)
 | 0,j,h,_=>by omega
 | fu+1,j,h,hj=>by
  rw [A0g]
  by_cases hc:i+j<l.length∧0<16 - j∧(l.getD (i+j) Act.zero).kind=39
  ·have e:(((decide (((i+j:Nat):Int)<(l.length:Int)))&&(decide (((i+j:Nat):Int)<((i:Int)+16))))&&(decide ((l.getD ((((i+j:Nat):Int)).toNat) Act.zero).kind=39)))=true:=by
    rw [Int.toNat_natCast];simp only [Bool.and_eq_true,decide_eq_true_eq];exact ⟨⟨by omega,by omega⟩,hc.2.2⟩
   rw [e,cond_true]
   have ih:=eb5 l ag b i fu (j+1) (by omega) (by omega)
   have e2:(((i+j:Nat):Int)+1)=((i+(j+1):Nat):Int):=by omega
   rw [e2,ih]
   obtain ⟨m,hm⟩:∃ m,16 - j=m+1:=⟨16 - j - 1,by omega⟩
   have e3:A1t (16 - j) (l.drop (i+j))=A1t (16 - (j+1)) (l.drop (i+(j+1)))+1:=by
    rw [hm,D4j hc.1 hc.2.2,show 16 - (j+1)=m by omega];rfl
   rw [e3,show j+1+A1t (16 - (j+1)) (l.drop (i+(j+1)))=j+(A1t (16 - (j+1)) (l.drop (i+(j+1)))+1) by omega]
  ·have e:(((decide (((i+j:Nat):Int)<(l.length:Int)))&&(decide (((i+j:Nat):Int)<((i:Int)+16))))&&(decide ((l.getD ((((i+j:Nat):Int)).toNat) Act.zero).kind=39)))=false:=by
    rw [Int.toNat_natCast]
    simp only [Bool.and_eq_false_iff,decide_eq_false_iff_not]
    by_cases h1:i+j<l.length
    ·by_cases h2:0<16 - j
     ·exact .inr (fun h3=>hc ⟨h1,h2,h3⟩)
     ·exact .inl (.inr (by omega))
    ·exact .inl (.inl (by omega))
   rw [e,cond_false,D1u hc]
   by_cases h0:j=0
   ·subst h0
    rw [decide_eq_true (by omega:((i+0:Nat):Int)=(i:Int)),cond_true,if_pos (by rfl),Int.toNat_natCast]
   ·rw [decide_eq_false (by omega:¬ ((i+j:Nat):Int)=(i:Int)),cond_false,if_neg (by omega),Int.toNat_natCast,Int.toNat_natCast,show i+j - i=j by omega]
    unfold B8
    rw [show (((i+j:Nat):Int) - 1)+1=((i+(j+0):Nat):Int) by omega];rfl
theorem eb4 (l:List Act) (hg:A7s l):∀ (fu i:Nat) (b:List UInt8),l.length - i<fu→i≤l.length→U0 l fu b (i:Int)=(b++enc (l.drop i),0)
 | 0,i,b,h,_=>by omega
 | fu+1,i,b,h,hi=>by
  rw [U0]
  by_cases hc:i<l.length
  ·rw [decide_eq_true (by omega:(i:Int)<(l.length:Int)),cond_true]
   have h5:=eb5 l (U0 l fu) b i (((l.length:Int) - (i:Int)).toNat+1) 0 (by omega) (by omega)
   rw [show ((i+0:Nat):Int)=(i:Int) by omega] at h5
   rw [h5]
   simp only [Nat.zero_add,Nat.add_zero,Nat.sub_zero]
   have hd:=B7a hc
   by_cases h0:A1t 16 (l.drop i)=0
   ·rw [if_pos h0,show (i:Int)+1=((i+1:Nat):Int) by omega,eb4 l hg fu (i+1) _ (by omega) (by omega)]
    have ht:A2x (l.getD i Act.zero)=Y9 (l.getD i Act.zero):=D8j (hg _ (by rw [gdE hc];exact List.getElem_mem hc))
    rw [ht,hd,D3q (by rw [← hd];exact h0),List.append_assoc]
   ·have hl:=C2c 16 (l.drop i)
    rw [List.length_drop] at hl
    rw [if_neg h0,eb4 l hg fu _ _ (by omega) (by omega),D8b (hg.drop i),D3p h0,List.drop_drop,List.append_assoc]
  ·rw [decide_eq_false (by omega:¬ (i:Int)<(l.length:Int)),cond_false,List.drop_eq_nil_of_le (by omega),D3u,List.append_nil]
theorem eb0 (L:List Act):∀ (l:List Act) (t:Nat),(∀ a ∈ l,M2 a=0)→R2 L l t=U0 L (((L.length:Int) - 0).toNat+1) [] 0
 | [],t,_=>rfl
 | a::l,t,h=>by
  rw [R2,h a (List.mem_cons_self ..)]
  exact eb0 L l (t+1) (fun x hx=>h x (List.mem_cons_of_mem _ hx))
theorem D5j (L:List Act):∀ (l:List Act) (t:Nat),(¬ ∀ a ∈ l,M2 a=0)→R2 L l t=([],200)
 | [],t,h=>absurd (fun a ha=>by cases ha) h
 | a::l,t,h=>by
  rw [R2]
  rcases D5u a with e | e
  ·rw [e]
   refine D5j L l (t+1) fun h2=>h fun x hx=>?_
   rcases List.mem_cons.1 hx with rfl | hx
   ·exact e
   ·exact h2 x hx
  ·rw [e];rfl
theorem D2c {l:List Act} (hl:l.length≤131072) (hm:∀ a ∈ l,B4m a.m) (hg:A7s l):Q5 l=(enc l,0):=by
 unfold Q5
 rw [decide_eq_false (by omega:¬ (131072:Int)<(l.length:Int)),cond_false,eb0 l l 0 (fun a ha=>(C0g (hm a ha)).2 (hg a ha))]
 have:=eb4 l hg (((l.length:Int) - 0).toNat+1) 0 [] (by omega) (Nat.zero_le _)
 rw [List.drop_zero,List.nil_append] at this
 exact this
theorem D6h {l:List Act} (hl:l.length≤131072) (hm:∀ a ∈ l,B4m a.m) (hg:¬ A7s l):Q5 l=([],200):=by
 unfold Q5
 rw [decide_eq_false (by omega:¬ (131072:Int)<(l.length:Int)),cond_false]
 exact D5j l l 0 fun h=>hg fun a ha=>(C0g (hm a ha)).1 (h a ha)
theorem D2x {l:List Act} (hl:131072<l.length):Q5 l=([],3):=by
 unfold Q5
 rw [decide_eq_true (by omega:(131072:Int)<(l.length:Int)),cond_true]
theorem ra5 (l:List Act) (out:List UInt8) (ag:List Act→List UInt8→List UInt8×Int):∀ (fu j:Nat),l.length - j<fu→j≤16 →
  A4p l out ag fu j=if j+A1t (16 - j) (l.drop j)=0 then ag (l.drop 1) (out++Y9 (l.getD 0 Act.zero))
   else ag (l.drop (j+A1t (16 - j) (l.drop j))) (out++X9 (l.take (j+A1t (16 - j) (l.drop j))))
 | 0,j,h,_=>by omega
 | fu+1,j,h,hj=>by
  rw [A4p]
  by_cases hc:j<l.length∧0<16 - j∧(l.getD j Act.zero).kind=39
  ·have e:(((decide ((j:Int)<(l.length:Int)))&&(decide ((j:Int)<16)))&&(decide ((l.getD j Act.zero).kind=39)))=true:=by
    simp only [Bool.and_eq_true,decide_eq_true_eq];exact ⟨⟨by omega,by omega⟩,hc.2.2⟩
   rw [e,cond_true,ra5 l out ag fu (j+1) (by omega) (by omega)]
   obtain ⟨m,hm⟩:∃ m,16 - j=m+1:=⟨16 - j - 1,by omega⟩
   have e3:A1t (16 - j) (l.drop j)=A1t (16 - (j+1)) (l.drop (j+1))+1:=by rw [hm,D4j hc.1 hc.2.2,show 16 - (j+1)=m by omega]
   rw [e3,show j+1+A1t (16 - (j+1)) (l.drop (j+1))=j+(A1t (16 - (j+1)) (l.drop (j+1))+1) by omega]
  ·have e:(((decide ((j:Int)<(l.length:Int)))&&(decide ((j:Int)<16)))&&(decide ((l.getD j Act.zero).kind=39)))=false:=by
    simp only [Bool.and_eq_false_iff,decide_eq_false_iff_not]
    by_cases h1:j<l.length
    ·by_cases h2:0<16 - j
     ·exact .inr (fun h3=>hc ⟨h1,h2,h3⟩)
     ·exact .inl (.inr (by omega))
    ·exact .inl (.inl (by omega))
   rw [e,cond_false,D1u hc]
   unfold B8
   by_cases h0:j=0
   ·subst h0;rfl
   ·rw [decide_eq_true (by omega:(0:Int)<(j:Int)),cond_true,if_neg (by omega)];rfl
theorem ra4:∀ (fu:Nat) (l:List Act) (out:List UInt8),A7s l→l.length<fu→Z9 fu l out=(out++enc l,0)
 | 0,l,out,_,h=>by omega
 | fu+1,l,out,hg,h=>by
  rw [Z9]
  cases l with
  | nil=>rw [D3u,List.append_nil];rfl
  | cons a r =>
   have h5:=ra5 (a::r) out (Z9 fu) (((a::r).length - 0)+1) 0 (by omega) (by omega)
   simp only [Nat.zero_add,Nat.sub_zero,List.drop_zero] at h5
   rw [decide_eq_true (by simp only [List.length_cons];omega:(0:Int)<((a::r).length:Int)),cond_true]
   refine h5.trans ?_
   by_cases h0:A1t 16 (a::r)=0
   ·rw [if_pos h0,D3q h0]
    have:=ra4 fu r (out++Y9 a) (hg.drop 1) (by simp only [List.length_cons] at h;omega)
    rw [List.append_assoc] at this
    exact this
   ·rw [if_neg h0,D5m hg,ra4 fu _ _ (hg.drop _) (by rw [List.length_drop];simp only [List.length_cons] at *;omega),D3p h0,List.append_assoc]
theorem ra0 (L:List Act):∀ (l:List Act) (t:Nat),(∀ a ∈ l,C9 a=true)→Z8 L l t=Z9 (L.length+1) L []
 | [],t,_=>rfl
 | a::l,t,h=>by
  rw [Z8,h a (List.mem_cons_self ..)]
  exact ra0 L l (t+1) (fun x hx=>h x (List.mem_cons_of_mem _ hx))
theorem D5c (L:List Act):∀ (l:List Act) (t:Nat),(¬ ∀ a ∈ l,C9 a=true)→Z8 L l t=([],200)
 | [],t,h=>absurd (fun a ha=>by cases ha) h
 | a::l,t,h=>by
  rw [Z8]
  cases e:C9 a with
  | true =>
   refine D5c L l (t+1) fun h2=>h fun x hx=>?_
   rcases List.mem_cons.1 hx with rfl | hx
   ·exact e
   ·exact h2 x hx
  | false=>rfl
theorem E4a {l:List Act} (hm:∀ a ∈ l,B4m a.m):Q5 l=A3i l:=by
 by_cases hl:l.length≤131072
 ·unfold A3i
  rw [decide_eq_false (by omega:¬ (131072:Int)<(l.length:Int)),cond_false]
  by_cases hg:A7s l
  ·rw [D2c hl hm hg,ra0 l l 0 hg,ra4 _ l [] hg (Nat.lt_succ_self _),List.nil_append]
  ·rw [D6h hl hm hg,D5c l l 0 hg]
 ·rw [D2x (by omega)]
  unfold A3i
  rw [decide_eq_true (by omega:(131072:Int)<(l.length:Int)),cond_true]
end Go.Proofs.YtanighkpfmgnbaaGreatDoor
set_option linter.unusedVariables false
set_option linter.unusedSimpArgs false
set_option maxRecDepth 10000
namespace Go.Proofs.YtanighkpfmgnbaaGreatDoor
open Go Go.Fen
set_option maxRecDepth 100000 in
theorem D2p:A7v=true:=by decide +kernel
theorem D8f {a:Act} (h:(I7 a).2=0):a={Act.zero with kind:=44,text:=a.text}∨a={Act.zero with kind:=45,n:=a.n,color:=a.color}∨a={Act.zero with kind:=46,text:=a.text}:=by
 unfold I7 B8 at h
 simp only [Bool.cond_eq_ite] at h
 split at h
 ·rename_i e;simp only [Bool.and_eq_true,decide_eq_true_eq] at e;exact .inl e.1
 split at h
 ·rename_i e;simp only [Bool.and_eq_true,decide_eq_true_eq] at e;exact .inr (.inl e.1.1.1)
 split at h
 ·rename_i e;simp only [Bool.and_eq_true,decide_eq_true_eq] at e;exact .inr (.inr e.1)
 ·exact absurd h (by decide)
theorem E2t {a:Act} (h:C5z a):B4m a.m:=by
 have hp:∀ j<8,0≤pw8 j∧pw8 j≤1000:=by decide +kernel
 unfold B4m
 rcases h with rfl | ⟨j,hj,rfl⟩ | rfl | ⟨j,hj,h2,rfl⟩ | ⟨m,h0,h5,rfl⟩ | ⟨p,c,hp,hc,rfl⟩
 ·decide
 ·have:=hp j hj;show _≤pw8 j∧pw8 j≤_;omega
 ·decide
 ·have:=hp j hj;show _≤pw8 j∧pw8 j≤_;omega
 ·show _≤m∧m≤_;omega
 ·show _≤(0:Int)∧(0:Int)≤_;omega
theorem E1j {a:Act} (h:C9 a=true):B4m a.m:=by
 have hr:=G7 h
 by_cases h39:a.kind=39
 ·unfold C9 at h
  rw [decide_eq_true h39,cond_true,decide_eq_true_iff] at h
  exact E2t (D7l h)
 unfold C9 S4 B8 at h
 rw [decide_eq_false h39,cond_false] at h
 by_cases h4:a.kind=44∨a.kind=45∨a.kind=46
 ·have h8:(I7 a).2=0:=by
   rcases h4 with e | e | e<;>rw [e] at h<;>exact of_decide_eq_true h
  rcases D8f h8 with e | e | e<;>rw [e]<;>exact ⟨by show _≤(0:Int);omega,by show (0:Int)≤_;omega⟩
 ·simp only [show ¬ a.kind=44 by omega,show ¬ a.kind=45 by omega,show ¬ a.kind=46 by omega,decide_false,cond_false,Bool.and_eq_true] at h
  unfold B4m
  by_cases h1:a.kind=1
  ·have hn:=h.1.1
   unfold N3 at hn
   rw [decide_eq_true h1,cond_true] at hn
   simp only [Bool.and_eq_true,decide_eq_true_eq] at hn
   omega
  ·unfold B4z at hr;omega
theorem D4z {x:Int} (h0:0≤x) (h1:x≤16777215):F5 ⟨2,x⟩=0:=by
 rw [B0g]
 show (bif ((decide ((0:Int)≤x))&&(decide (x≤16777215))) then (0:Int) else 130)=0
 rw [decide_eq_true h0,decide_eq_true h1];rfl
theorem D8h {x:Int} (h0:0≤x) (h1:x≤255):F5 ⟨1,x⟩=0:=by
 rw [B0g]
 show (bif ((decide ((0:Int)≤x))&&(decide (x≤255))) then (0:Int) else 130)=0
 rw [decide_eq_true h0,decide_eq_true h1];rfl
theorem D0k:F5 Col.zero=0:=by decide +kernel
theorem E7b:∀ k<8,∃ j,j<8∧(([4,8,16,32,64,128]:List Int)++([1,2]:List Int)).getD k 0=pw8 j:=by
 intro k hk
 have:∀ k<8,(([4,8,16,32,64,128]:List Int)++([1,2]:List Int)).getD k 0=pw8 ((k+2) % 8):=by decide +kernel
 exact ⟨(k+2) % 8,by omega,this k hk⟩
theorem E6q:∀ k<7,(k=6∧(([4,8,16,32,64,128]:List Int)++([3]:List Int)).getD k 0=3)∨(k<6∧(([4,8,16,32,64,128]:List Int)++([3]:List Int)).getD k 0=pw8 (k+2)):=by decide +kernel
theorem E1a (d:Drf) (hd:B3h d):C5z (A4o d):=by
 unfold B3h at hd
 have hn:0≤d.n % 7∧d.n % 7<7:=by omega
 unfold A4o
 by_cases h1:d.n % 7=1
 ·obtain ⟨j,hj,e⟩:=E7b (d.m % 8).toNat (by omega)
  rw [decide_eq_true h1,cond_true,e,h1];exact .inr (.inl ⟨j,hj,rfl⟩)
 by_cases h2:d.n % 7=2
 ·rw [decide_eq_false h1,decide_eq_true h2,cond_false,cond_true,h2]
  rcases E6q (d.m % 7).toNat (by omega) with ⟨_,e⟩ | ⟨hk,e⟩
  ·rw [e];exact .inr (.inr (.inl rfl))
  ·rw [e];exact .inr (.inr (.inr (.inl ⟨_,by omega,by omega,rfl⟩)))
 by_cases h3:d.n % 7=3
 ·rw [decide_eq_false h1,decide_eq_false h2,decide_eq_true h3,cond_false,cond_false,cond_true,h3]
  exact .inr (.inr (.inr (.inr (.inl ⟨d.m % 6,by omega,by omega,rfl⟩))))
 have hj:∀ p:Int,(p=4∨p=5∨p=6)→d.n % 7=p→C5z (A1c d true):=by
  intro p hp e
  have key:∀ c:Col,F5 c=0→C5z {Act.zero with kind:=39,n:=(d.n % 7),color:=c}:=fun c hc=>.inr (.inr (.inr (.inr (.inr ⟨p,c,hp,hc,by rw [e];rfl⟩))))
  unfold A1c
  simp only [Bool.cond_eq_ite]
  repeat' split
  ·exact key _ (D4z (by omega) (by omega))
  ·exact key _ (D8h (by omega) (by omega))
  ·exact key _ (D8h (by omega) (by omega))
  ·exact key _ D0k
  ·exact key _ D0k
 by_cases h4:d.n % 7=4
 ·rw [decide_eq_false h1,decide_eq_false h2,decide_eq_false h3,decide_eq_true h4];exact hj 4 (by omega) h4
 by_cases h5:d.n % 7=5
 ·rw [decide_eq_false h1,decide_eq_false h2,decide_eq_false h3,decide_eq_false h4,decide_eq_true h5];exact hj 5 (by omega) h5
 by_cases h6:d.n % 7=6
 ·rw [decide_eq_false h1,decide_eq_false h2,decide_eq_false h3,decide_eq_false h4,decide_eq_false h5,decide_eq_true h6];exact hj 6 (by omega) h6
 ·have h0:d.n % 7=0:=by omega
  rw [decide_eq_false h1,decide_eq_false h2,decide_eq_false h3,decide_eq_false h4,decide_eq_false h5,decide_eq_false h6]
  show C5z {Act.zero with kind:=39,n:=(d.n % 7)}
  rw [h0];exact .inl rfl
theorem C6j (d:Drf) (i k:Nat) (ag:Nat→Act) (hag:C9 (ag (k+1))=true):∀ (fu b:Nat),5 - b<fu→C9 (M9 d i k ag fu b)=true
 | 0,_,h=>by omega
 | fu+1,b,h=>by
  rw [M9]
  by_cases hb:b<5
  ·rw [decide_eq_true (by omega:(b:Int)<5),cond_true]
   simp only [Bool.cond_eq_ite]
   split
   ·assumption
   split
   ·assumption
   split
   ·assumption
   ·exact C6j d i k ag hag fu (b+1) (by omega)
  ·rw [decide_eq_false (by omega:¬ (b:Int)<5),cond_false];exact hag
theorem C6r (d:Drf) (i:Nat) (ag:Nat→Act) (hag:C9 (ag (i+1))=true):∀ (fu k:Nat),5 - k<fu→C9 (K8 d i ag fu k)=true
 | 0,_,h=>by omega
 | fu+1,k,h=>by
  rw [K8]
  by_cases hb:k<5
  ·rw [decide_eq_true (by omega:(k:Int)<5),cond_true]
   exact C6j d i k _ (C6r d i ag hag fu (k+1) (by omega)) _ _ (by omega)
  ·rw [decide_eq_false (by omega:¬ (k:Int)<5),cond_false];exact hag
theorem D0n (d:Drf):∀ (fu i:Nat),5 - i<fu→C9 (K1 d fu i)=true
 | 0,_,h=>by omega
 | fu+1,i,h=>by
  rw [K1]
  by_cases hb:i<5
  ·rw [decide_eq_true (by omega:(i:Int)<5),cond_true]
   exact C6r d i _ (D0n d fu (i+1) (by omega)) _ _ (by omega)
  ·rw [decide_eq_false (by omega:¬ (i:Int)<5),cond_false];decide +kernel
theorem D9t {x:Int} (h:F5 ⟨2,x⟩=0):A1x ⟨2,x⟩=(x,true):=by
 unfold A1x;rw [h];rfl
theorem D6q {x:Int} (h:F5 ⟨2,x⟩=0):(X6 ⟨2,x⟩).2=0:=by
 unfold X6
 rw [h,D9t h];rfl
theorem D8y {x:Int} (h0:0≤x) (h1:x≤16777215):(A0q ⟨2,x⟩).2=0:=by
 have h:=D6q (D4z h0 h1)
 rcases D1j (c:=⟨2,x⟩) rfl with e | ⟨e,_⟩
 ·rw [← e];exact h
 ·exact absurd h e
theorem C4u (x y:Act) (hy:C9 y=true):C9 (bif (!(C9 x)) then y else x)=true:=by
 cases h:C9 x with
 | true=>exact h
 | false=>exact hy
theorem D9v {n x:Int} (hn:0≤n∧n≤255) (hx:0≤x∧x≤16777215):C9 ⟨45,n,0,⟨2,x⟩,[]⟩=true:=by
 have e5:=D8y hx.1 hx.2
 have e:C9 ⟨45,n,0,⟨2,x⟩,[]⟩=decide ((I7 ⟨45,n,0,⟨2,x⟩,[]⟩).2=0):=by
  unfold C9 S4
  simp only [Int.reduceEq,decide_true,decide_false,cond_true,cond_false,B8]
 rw [e,decide_eq_true_iff]
 have e4:decide ((⟨45,n,0,⟨2,x⟩,[]⟩:Act)={Act.zero with kind:=44,text:=[]})=false:=decide_eq_false (fun h=>by injection h with h;exact absurd h (by decide))
 have e45:decide ((⟨45,n,0,⟨2,x⟩,[]⟩:Act)={Act.zero with kind:=45,n:=n,color:=⟨2,x⟩})=true:=decide_eq_true rfl
 unfold I7
 simp only [e4,e45,B8,Bool.false_and,cond_false,decide_true,Bool.true_and,decide_eq_true hn.1,decide_eq_true hn.2,cond_true,e5]
theorem D8d:C9 {Act.zero with kind:=44,text:=[116]}=true:=by decide +kernel
theorem D6z:C9 {Act.zero with kind:=46,text:=[116]}=true:=by decide +kernel
theorem B9e {b:Bool} {x y:Act} (h1:b=true→C9 x=true) (h2:b=false→C9 y=true):C9 (bif b then x else y)=true:=by
 cases b with
 | true=>exact h1 rfl
 | false=>exact h2 rfl
theorem D6s {a:Act} (hp:C5z a):C9 a=true:=by
 have hT:=B6a hp
 have hk:a.kind=39:=by
  rcases hp with e | ⟨j,hj,e⟩ | e | ⟨j,hj,h2,e⟩ | ⟨m,h0,h5,e⟩ | ⟨p,c,hp,hc,e⟩<;>rw [e]<;>rfl
 unfold C9
 rw [decide_eq_true hk,cond_true,hT.rchk];rfl
theorem D6j (d:Drf) (hd:B3h d):C9 (J3 d)=true:=by
 have hp:=D6s (E1a d hd)
 have h8:=D0n d ((5 - 0)+1) 0 (by omega)
 unfold B3h at hd
 unfold J3
 have hw:0≤IntKind.i64.wrap ((1:Int)+d.kind % 46):=by rw [D7e (by omega:0≤(1:Int)+d.kind % 46∧(1:Int)+d.kind % 46≤1000000000)];omega
 generalize IntKind.i64.wrap ((1:Int)+d.kind % 46)=w at hw ⊢
 refine B9e (fun h=>?_) (fun h=>?_)
 ·rw [Bool.or_eq_true,decide_eq_true_iff,decide_eq_true_iff] at h
  rcases h with rfl | rfl
  ·exact C4u _ _ D8d
  ·exact C4u _ _ D6z
 ·refine B9e (fun h2=>?_) (fun h2=>?_)
  ·obtain rfl:=of_decide_eq_true h2
   exact D9v (by omega) (by omega)
  ·exact B9e (fun _=>hp) (fun _=>h8)
theorem D9m {x y:List UInt8×Int} (h:x=y):((!(decide (x.1=y.1)))||(!decide (x.2=y.2)))=false:=by subst h;simp
end Go.Proofs.YtanighkpfmgnbaaGreatDoor
set_option linter.unusedVariables false
set_option linter.unusedSimpArgs false
set_option maxRecDepth 10000
namespace Go.Proofs.YtanighkpfmgnbaaGreatDoor
open Go Go.Fen
theorem B8c (x:List Act) (hm:∀ a ∈ x,B4m a.m) (K:Bool):(B8 (Q5 x) fun (r:List UInt8×Int)=>(B8 (A3i x) fun (q:List UInt8×Int)=>(bif ((!(decide (r.1=q.1)))||(!decide (r.2=q.2))) then false else K)))=K:=by
 simp only [B8]
 rw [D9m (E4a hm),cond_false]
theorem D0f (l:List Drf) (hd:∀ d ∈ l,B3h d):∀ (fu:Nat) (out:List Act) (i:Nat),A7s out→A7s (Y1 l fu out i)
 | 0,_,_,_=>fun a ha=>by cases ha
 | fu+1,out,i,h=>by
  rw [Y1]
  by_cases hc:(i:Int)<(l.length:Int)∧(i:Int)<40
  ·rw [decide_eq_true hc.1,decide_eq_true hc.2]
   refine D0f l hd fu _ _ ?_
   intro a ha
   rcases List.mem_append.1 ha with ha | ha
   ·exact h a ha
   ·rw [List.mem_singleton.1 ha]
    exact D6j _ (hd _ (by rw [gdE (by omega)];exact List.getElem_mem (by omega)))
  ·have e:((decide ((i:Int)<(l.length:Int)))&&(decide ((i:Int)<40)))=false:=by
    rw [Bool.and_eq_false_iff,decide_eq_false_iff_not,decide_eq_false_iff_not];omega
   rw [e,cond_false];exact h
theorem C7y (l:List Drf) (hd:∀ d ∈ l,B3h d):A7s (A9n l):=D0f l hd _ _ _ (fun a ha=>by cases ha)
theorem E2q:B4m Act.zero.m:=⟨by show _≤(0:Int);omega,by show (0:Int)≤_;omega⟩
theorem D4h (row pens bent:List Act) (h1:∀ a ∈ row,B4m a.m) (h2:∀ a ∈ pens,B4m a.m) (h3:∀ a ∈ bent,B4m a.m):Y8 row pens bent=true:=by
 unfold Y8
 refine (B8c _ h1 _).trans ?_
 refine (B8c _ (fun a ha=>?_) _).trans ?_
 ·rcases List.mem_append.1 ha with ha | ha
  ·exact h1 a (by simpa using ha)
  ·exact h2 a ha
 refine (B8c _ (fun a ha=>?_) _).trans ?_
 ·rcases List.mem_append.1 ha with ha | ha
  ·exact h2 a (by simpa using ha)
  ·exact h1 a ha
 exact (B8c _ h3 _).trans D2p
theorem D3x (many:UInt8) (a:Act) (at_:UInt8) (row:List Act) (ha:B4m a.m) (hr:∀ x ∈ row,B4m x.m):∀ (fu:Nat) (pens:List Act) (i:Nat),40 - i<fu→i≤40→(∀ x ∈ pens,B4m x.m)→R6 many a at_ row fu pens i=true
 | 0,pens,i,h,_,_=>by omega
 | fu+1,pens,i,h,hi,hp=>by
  rw [R6]
  by_cases hc:(i:Int)<((many.toNat:Int) % 40)∧(0:Int)<(row.length:Int)
  ·rw [decide_eq_true hc.1,decide_eq_true hc.2]
   have hk:i<40:=by omega
   have step:∀ x:Act,B4m x.m→R6 many a at_ row fu (pens++[x]) (i+1)=true:=fun x hx =>
    D3x many a at_ row ha hr fu _ _ (by omega) (by omega) (fun y hy=>by
     rcases List.mem_append.1 hy with hy | hy
     ·exact hp y hy
     ·rw [List.mem_singleton.1 hy];exact hx)
   show (bif _ then _ else _)=true
   cases (!decide ((row.getD ((Int.tmod (i:Int) (row.length:Int)).toNat) Act.zero).kind=39)) with
   | true=>exact step _ ⟨by show _≤((i:Int) % 6);omega,by show ((i:Int) % 6)≤_;omega⟩
   | false=>exact step _ (B3k hr E2q _)
  ·have e:((decide ((i:Int)<((many.toNat:Int) % 40)))&&(decide ((0:Int)<(row.length:Int))))=false:=by
    rw [Bool.and_eq_false_iff,decide_eq_false_iff_not,decide_eq_false_iff_not];omega
   rw [e,cond_false]
   cases decide ((0:Int)<((([]:List Act)++row).length:Int)) with
   | true =>
    refine D4h row pens _ hr hp (fun x hx=>?_)
    rcases List.mem_or_eq_of_mem_set hx with hx | rfl
    ·exact hr x (by simpa using hx)
    ·exact ha
   | false=>exact D4h row pens _ hr hp (fun x hx=>hr x (by simpa using hx))
theorem C9b (l:List Drf) (many:UInt8) (a:Act) (at_:UInt8) (hd:∀ d ∈ l,B3h d) (ha:B4m a.m):B0b l many a at_=true :=
 D3x many a at_ _ ha (fun x hx=>E1j (C7y l hd x hx)) _ [] 0 (by omega) (by omega) (fun x hx=>by cases hx)
end Go.Proofs.YtanighkpfmgnbaaGreatDoor
