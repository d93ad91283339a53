import Derived.Test.YtanighkpfmgnbaaGreatDoorWN1
import Derived.Test.YtanighkpfmgnbaaGreatDoorWB5
set_option linter.unusedVariables false
set_option linter.unusedSimpArgs false
set_option linter.unnecessarySimpa false
set_option maxRecDepth 10000
namespace Go.Proofs.YtanighkpfmgnbaaGreatDoor
open Go Go.Fen
theorem B5n {α:Type} (a w:Act) (f:Unit→Option α):Option.bind (A5y a w) f=bif decide (a=w) then f () else none:=by
 unfold A5y X0
 cases decide (a=w)<;>rfl
theorem B1e {α:Type} (b:Bool) (f:Unit→Option α):Option.bind (X0 b) f=bif b then f () else none:=by
 unfold X0;cases b<;>rfl
theorem D1a {α:Type} (t:List UInt8) (x:α):Option.bind (A5w t) (fun _=>some x)=bif U7 t then some x else none:=by
 rw [← D1t];cases A5w t<;>rfl
theorem E0n (n m:Int) (c:Col) (t:List UInt8):A0e n m c t=I0 ⟨44,n,m,c,t⟩:=by
 unfold A0e U6 A5j
 rw [B1e,cond_true,B5n,D1a]
 have hB:decide ((⟨44,n,m,c,t⟩:Act)={Act.zero with kind:=45,n:=n,color:=c})=false:=decide_eq_false (fun h=>by injection h with h;exact absurd h (by decide))
 have hC:decide ((⟨44,n,m,c,t⟩:Act)={Act.zero with kind:=46,text:=t})=false:=decide_eq_false (fun h=>by injection h with h;exact absurd h (by decide))
 unfold I0
 simp only [hB,hC,Bool.false_and,cond_false]
 cases decide ((⟨44,n,m,c,t⟩:Act)={Act.zero with kind:=44,text:=t})<;>cases U7 t<;>rfl
theorem E0h (n m:Int) (c:Col) (t:List UInt8):X6 n m c t=I0 ⟨45,n,m,c,t⟩:=by
 unfold X6 R8 A4w
 rw [B1e,cond_true,B5n]
 have hA:decide ((⟨45,n,m,c,t⟩:Act)={Act.zero with kind:=44,text:=t})=false:=decide_eq_false (fun h=>by injection h with h;exact absurd h (by decide))
 have hC:decide ((⟨45,n,m,c,t⟩:Act)={Act.zero with kind:=46,text:=t})=false:=decide_eq_false (fun h=>by injection h with h;exact absurd h (by decide))
 unfold I0 C1
 simp only [hA,hC,Bool.false_and,cond_false]
 cases decide ((⟨45,n,m,c,t⟩:Act)={Act.zero with kind:=45,n:=n,color:=c}) with
 | false=>rfl
 | true =>
  simp only [B1e,cond_true,Bool.true_and]
  by_cases hk:c.kind=2
  ·by_cases h0:(0:Int)≤n
   ·rw [decide_eq_true hk,decide_eq_true h0,C1h h0]
    rcases D0j hk with e | ⟨e1,e2⟩
    ·rw [e]
     cases decide ((Z7 c).2=0)<;>cases decide (n≤255)<;>rfl
    ·rw [decide_eq_false e1,decide_eq_false e2]
     cases decide (n≤255)<;>rfl
   ·rw [decide_eq_false h0]
    cases decide ((W0 c).2=0)<;>cases decide (c.kind=2)<;>rfl
  ·rw [decide_eq_false hk]
   cases decide ((W0 c).2=0)<;>cases decide ((0:Int)≤n)<;>cases decide (n≤255)<;>rfl
theorem E0o (n m:Int) (c:Col) (t:List UInt8):X4 n m c t=I0 ⟨46,n,m,c,t⟩:=by
 unfold X4 R6 A4v
 rw [B1e,cond_true,B5n]
 have hA:decide ((⟨46,n,m,c,t⟩:Act)={Act.zero with kind:=44,text:=t})=false:=decide_eq_false (fun h=>by injection h with h;exact absurd h (by decide))
 have hB:decide ((⟨46,n,m,c,t⟩:Act)={Act.zero with kind:=45,n:=n,color:=c})=false:=decide_eq_false (fun h=>by injection h with h;exact absurd h (by decide))
 unfold I0 C1
 simp only [hA,hB,Bool.false_and,cond_false]
 cases decide ((⟨46,n,m,c,t⟩:Act)={Act.zero with kind:=46,text:=t}) with
 | false=>rfl
 | true =>
  simp only [B1e,cond_true,Bool.true_and]
  by_cases h:(t.length:Int)≤378
  ·have h2:(W7 t).2=0:=by rw [C4y (by omega)]
   rw [decide_eq_true h,decide_eq_true h2,E1i (by omega)]
   rfl
  ·rw [decide_eq_false h];rfl
def D2f (n:Int):Prop:=-9223372036854775808≤n∧n≤9223372036854775807
theorem D3j {c:Bool}:(bif c then (200:Int) else 0)=0 ↔ c=false:=by cases c<;>decide
theorem B7a {c:Bool}:(bif !c then (200:Int) else 0)=0 ↔ c=true:=by cases c<;>decide
def C7o:List Int:=[17,18,19,20,26,27,35,38,40,41,2,3,4,5,6,8,9,10,11,12,13,15,16,7,14,42,21,33,22,23,24,25,28,29,30,31,32,34,36,37,43]
theorem D4i (k:Int):H3 k B8=C7o.contains k:=by rw [B0z];rfl
theorem C8e (lo hi n:Int):A4 ({Spn.zero with lo:=lo,hi:=hi}) n=(decide (lo≤n)&&decide (n≤hi)):=rfl
theorem D8h (n lo hi:Int):F6 n lo hi=(decide (lo≤n)&&decide (n≤hi)):=by unfold F6;rfl
theorem D4y (n:Int):(decide ((0:Int)≤n)&&decide (n≤0))=decide (n=0):=by
 by_cases h:n=0
 ·subst h;rfl
 ·rw [decide_eq_false h,Bool.and_eq_false_iff,decide_eq_false_iff_not,decide_eq_false_iff_not];omega
theorem D3m {a:Act} (hk:a.kind≠1) (h:C7o.contains a.kind=true):(D6 a.kind a.n&&F5 a.kind a.m)=M3 a:=by
 obtain ⟨k,n,m,c,t⟩:=a
 simp only [C7o,List.contains_cons,List.contains_nil,Bool.or_false,Bool.or_eq_true,beq_iff_eq] at h
 unfold M3 G7 S5 W3 I7 S7 J7
 rcases h with h | h | h | h | h | h | h | h | h | h | h | h | h | h | h | h | h | h | h | h | h | h | h | h | h | h | h | h | h | h | h | h | h | h | h | h | h | h | h | h | h<;>subst h <;>
  simp only [D6,F5,Int.reduceEq,decide_true,decide_false,cond_true,cond_false,C8e,D8h,D4y,Z0]
theorem D2z {a:Act} (h1:a.kind≠1) (h39:a.kind≠39) (h44:a.kind≠44) (h45:a.kind≠45) (h46:a.kind≠46) (h:C7o.contains a.kind=false):M3 a=false:=by
 simp only [C7o,List.contains_cons,List.contains_nil,Bool.or_false,Bool.or_eq_false_iff,beq_eq_false_iff_ne,ne_eq] at h
 unfold M3 G7 S5 W3 I7 S7
 simp only [h,h1,decide_false,cond_false]
theorem C9l {a:Act} (hm:D2f a.m):O3 a=0 ↔ D5 a=true:=by
 unfold O3 D5 R4 C1
 by_cases h39:a.kind=39
 ·have e:(⟨39,a.n,a.m,a.color,a.text⟩:Act)=a:=by rw [← h39]
  rw [e,h39]
  show (bif (!decide (H9 a=0)) then (200:Int) else 0)=0 ↔ decide (L6 a=0)=true
  rw [B7a,decide_eq_true_iff,decide_eq_true_iff];exact D8z hm.1 hm.2
 rw [decide_eq_false h39,cond_false,cond_false]
 by_cases h44:a.kind=44
 ·have e:I0 a=A0e a.n a.m a.color a.text:=by rw [E0n,← h44]
  rw [e,h44]
  show (bif (!decide ((A0e a.n a.m a.color a.text).2=0)) then (200:Int) else 0)=0 ↔ decide ((A0e a.n a.m a.color a.text).2=0)=true
  rw [B7a,decide_eq_true_iff]
 by_cases h45:a.kind=45
 ·have e:I0 a=X6 a.n a.m a.color a.text:=by rw [E0h,← h45]
  rw [e,h45]
  show (bif (!decide ((X6 a.n a.m a.color a.text).2=0)) then (200:Int) else 0)=0 ↔ decide ((X6 a.n a.m a.color a.text).2=0)=true
  rw [B7a,decide_eq_true_iff]
 by_cases h46:a.kind=46
 ·have e:I0 a=X4 a.n a.m a.color a.text:=by rw [E0o,← h46]
  rw [e,h46]
  show (bif (!decide ((X4 a.n a.m a.color a.text).2=0)) then (200:Int) else 0)=0 ↔ decide ((X4 a.n a.m a.color a.text).2=0)=true
  rw [B7a,decide_eq_true_iff]
 simp only [h44,h45,h46,decide_false,cond_false]
 by_cases h1:a.kind=1
 ·rw [decide_eq_true h1,cond_true,D3j]
  have en:M3 a=((decide ((0:Int)≤(A6w a.n)))&&(decide (a.m=0))):=by unfold M3;rw [decide_eq_true h1,cond_true]
  rw [en,D7x]
  have ea:decide ((⟨1,a.n,a.m,a.color,a.text⟩:Act)=A2d a.kind a.n 0)=(decide (a.m=0)&&decide (a.color=Col.zero)&&decide (a.text=[])):=by
   rw [h1,show A2d 1 a.n 0=⟨1,a.n,0,Col.zero,[]⟩ from rfl]
   rw [Bool.eq_iff_iff]
   simp only [decide_eq_true_eq,Bool.and_eq_true,Act.mk.injEq,true_and]
   exact and_assoc.symm
  rw [ea]
  simp only [Bool.or_eq_false_iff,decide_eq_false_iff_not,Bool.not_eq_false',Bool.and_eq_true,decide_eq_true_eq,and_assoc,Int.not_lt]
 ·rw [decide_eq_false h1,cond_false,D3j,D4i]
  cases hN:C7o.contains a.kind with
  | false=>rw [D2z h1 h39 h44 h45 h46 hN];simp
  | true =>
   rw [← D3m h1 hN]
   simp only [Bool.or_eq_false_iff,Bool.not_eq_false',Bool.and_eq_true,decide_eq_true_eq,Bool.not_true,true_and,and_assoc]
theorem D9s {a:Act} (h:D5 a=true) (h1:a.kind≠1) (h39:a.kind≠39) (h44:a.kind≠44) (h45:a.kind≠45) (h46:a.kind≠46):C7o.contains a.kind=true∧M3 a=true:=by
 unfold D5 R4 at h
 rw [decide_eq_false h39,decide_eq_false h44,decide_eq_false h45,decide_eq_false h46] at h
 simp only [cond_false,Bool.and_eq_true] at h
 refine ⟨?_,h.1.1⟩
 cases hN:C7o.contains a.kind with
 | true=>rfl
 | false=>rw [D2z h1 h39 h44 h45 h46 hN] at h;exact absurd h.1.1 (by decide)
theorem E4a (n:Int) (hn:0≤n∧n≤9999):O5 (-2) [n]=G0 (n.toNat+1) n:=by
 rw [D3k (-2) hn,if_neg (by omega),C1h hn.1]
theorem D6n (k n:Int) (hn:0≤n∧n≤9999):O5 k [n]=P1 n k:=by rw [D3k k hn,C6k k hn.1]
theorem E0q (k n m:Int) (hn:0≤n∧n≤9999) (hm:0≤m∧m≤9999):O5 k [n,m]=A6c n m k:=by rw [D8r k hn hm,E1h k hn.1 hm.1]
theorem D1k {a:Act} (h:a.kind=39):Q2 a=A6a [a]:=by
 unfold Q2 C1;rw [h];rfl
theorem B4m {a:Act} (hk:a.kind=39) (h:D5 a=true):Told a:=by
 unfold D5 at h
 rw [decide_eq_true hk,cond_true,decide_eq_true_iff] at h
 exact B4c (D7o h)
set_option maxHeartbeats 4000000 in
theorem D5k {a:Act} (h:D5 a=true):A2b a=Q2 a:=by
 by_cases h1:a.kind=1
 ·obtain ⟨k,n,m,c,t⟩:=a;dsimp only at h1;subst h1;exact D2a n
 by_cases h39:a.kind=39
 ·have hT:=B4m h39 h
  rw [D1k h39,C3b (Nat.le_of_ble_eq_true rfl) (fun x hx=>by rw [List.mem_singleton.1 hx];exact hT),← D2y (l:=[a]) (Nat.le_of_ble_eq_true rfl) (fun x hx=>by rw [List.mem_singleton.1 hx];exact hT)]
  obtain ⟨k,n,m,c,t⟩:=a;dsimp only at h39;subst h39;rfl
 by_cases h44:a.kind=44
 ·obtain ⟨k,n,m,c,t⟩:=a;dsimp only at h44;subst h44
  show ([27,93]++(A0e n m c t).1)++[27,92]=(([27,93]++(I0 ⟨44,n,m,c,t⟩).1)++[27])++[92]
  rw [E0n,List.append_assoc _ [27] [92]];rfl
 by_cases h45:a.kind=45
 ·obtain ⟨k,n,m,c,t⟩:=a;dsimp only at h45;subst h45
  show ([27,93]++(X6 n m c t).1)++[27,92]=(([27,93]++(I0 ⟨45,n,m,c,t⟩).1)++[27])++[92]
  rw [E0h,List.append_assoc _ [27] [92]];rfl
 by_cases h46:a.kind=46
 ·obtain ⟨k,n,m,c,t⟩:=a;dsimp only at h46;subst h46
  show ([27,93]++(X4 n m c t).1)++[27,92]=(([27,93]++(I0 ⟨46,n,m,c,t⟩).1)++[27])++[92]
  rw [E0o,List.append_assoc _ [27] [92]];rfl
 obtain ⟨hN,hn⟩:=D9s h h1 h39 h44 h45 h46
 rw [← D3m h1 hN] at hn
 clear h h1 h39 h44 h45 h46
 obtain ⟨k,n,m,c,t⟩:=a
 simp only [C7o,List.contains_cons,List.contains_nil,Bool.or_false,Bool.or_eq_true,beq_iff_eq] at hN
 have q1:=D6n 1 n
 have q0:=D6n 0 n
 have qm:=D6n 1 m
 have qd:=E4a n
 have t1:=E0q 1 n m
 have t0:=E0q 0 n m
 rcases hN with h | h | h | h | h | h | h | h | h | h | h | h | h | h | h | h | h | h | h | h | h | h | h | h | h | h | h | h | h | h | h | h | h | h | h | h | h | h | h | h | h<;>subst h <;>
  simp only [D6,F5,Int.reduceEq,decide_true,decide_false,cond_true,cond_false,C8e,Z0,Bool.and_eq_true,Bool.or_eq_true,decide_eq_true_eq] at hn
 all_goals first
  | rfl
  | (show ([27,91]++O5 1 [n])++_=[27,91]++(P1 n 1++_);rw [q1 (by omega)];exact List.append_assoc ..)
  | (show ([27,91]++O5 0 [n])++_=[27,91]++(P1 n 0++_);rw [q0 (by omega)];exact List.append_assoc ..)
  | (show ([27,91]++O5 1 [m])++_=[27,91]++(P1 m 1++_);rw [qm (by omega)];exact List.append_assoc ..)
  | (show ([27,91]++O5 1 [n,m])++_=[27,91]++(A6c n m 1++_);rw [t1 (by omega) (by omega)];exact List.append_assoc ..)
  | (show ([27,91]++O5 0 [n,m])++_=[27,91]++(A6c n m 0++_);rw [t0 (by omega) (by omega)];exact List.append_assoc ..)
  | (show ([27,91]++O5 (-2) [n])++_=[27,91]++(G0 (n.toNat+1) n++_);rw [qd (by omega)];exact List.append_assoc ..)
  | (obtain e | e:n=0∨n=1:=by omega)<;>subst e<;>rfl
  | (obtain e | e:n=2∨n=3:=by omega)<;>subst e<;>rfl
  | (show (([27,91]++[63])++O5 (-2) [n])++_=[27,91]++(([63]++G0 (n.toNat+1) n)++_);rw [qd (by omega)];simp only [List.append_assoc];rfl)
  | (obtain e | e:m=0∨m=1:=by omega)<;>subst e<;>(show (([27,91]++_)++O5 (-2) [n])++_=[27,91]++((_++G0 (n.toNat+1) n)++_);rw [qd (by omega)];simp only [List.append_assoc];rfl)
end Go.Proofs.YtanighkpfmgnbaaGreatDoor
set_option linter.unusedVariables false
set_option linter.unusedSimpArgs false
set_option linter.unnecessarySimpa false
set_option maxRecDepth 10000
namespace Go.Proofs.YtanighkpfmgnbaaGreatDoor
open Go Go.Fen
def O1:Nat→List Act→Nat
 | 0,_=>0
 | _+1,[]=>0
 | k+1,a::r=>if a.kind=39 then O1 k r+1 else 0
theorem B4a:∀ (k:Nat) (l:List Act),O1 k l≤k∧O1 k l≤l.length
 | 0,l=>⟨Nat.le_refl _,Nat.zero_le _⟩
 | k+1,[]=>⟨Nat.zero_le _,Nat.le_refl _⟩
 | k+1,a::r=>by
  have:=B4a k r
  unfold O1
  split
  ·simp only [List.length_cons];omega
  ·exact ⟨Nat.zero_le _,Nat.zero_le _⟩
theorem D0i:∀ (k:Nat) (l:List Act),∀ x ∈ l.take (O1 k l),x.kind=39
 | 0,l=>by simp [O1]
 | k+1,[]=>by simp [O1]
 | k+1,a::r=>by
  unfold O1
  split
  ·rename_i h
   intro x hx
   rw [List.take_succ_cons] at hx
   rcases List.mem_cons.1 hx with rfl | hx
   ·exact h
   ·exact D0i k r x hx
  ·simp
theorem B1n {l:List Act} {n:Nat} (h:n<l.length):l.drop n=l.getD n Act.zero::l.drop (n+1):=by
 rw [gdE h];exact List.drop_eq_getElem_cons h
theorem D9v {l:List Act} {n k:Nat} (h:n<l.length) (hk:(l.getD n Act.zero).kind=39):O1 (k+1) (l.drop n)=O1 k (l.drop (n+1))+1:=by
 rw [B1n h];exact if_pos hk
theorem D7w {l:List Act} {n k:Nat} (h:¬ (n<l.length∧0<k∧(l.getD n Act.zero).kind=39)):O1 k (l.drop n)=0:=by
 cases k with
 | zero=>rfl
 | succ k =>
  by_cases h1:n<l.length
  ·rw [B1n h1];unfold O1;rw [if_neg (fun e=>h ⟨h1,by omega,e⟩)]
  ·rw [List.drop_eq_nil_of_le (by omega)];rfl
def C9r:Nat→List Act→List UInt8
 | 0,_=>[]
 | _+1,[]=>[]
 | fu+1,a::r=>if O1 16 (a::r)=0 then Q2 a++C9r fu r else C8n ((a::r).take (O1 16 (a::r)))++C9r fu ((a::r).drop (O1 16 (a::r)))
theorem B8v:∀ (fu fu':Nat) (l:List Act),l.length<fu→l.length<fu'→C9r fu l=C9r fu' l
 | 0,_,_,h,_=>by omega
 | _,0,_,_,h=>by omega
 | fu+1,fu'+1,[],_,_=>rfl
 | fu+1,fu'+1,a::r,h,h'=>by
  simp only [List.length_cons] at h h'
  unfold C9r
  split
  ·rw [B8v fu fu' r (by omega) (by omega)]
  ·rw [B8v fu fu' _ (by rw [List.length_drop,List.length_cons];omega) (by rw [List.length_drop,List.length_cons];omega)]
def enc (l:List Act):List UInt8:=C9r (l.length+1) l
theorem C0z:enc []=[]:=rfl
theorem B7o {a:Act} {r:List Act} (h:O1 16 (a::r)=0):enc (a::r)=Q2 a++enc r:=by
 unfold enc
 rw [C9r,if_pos h];rfl
theorem B7l {l:List Act} (h:O1 16 l≠0):enc l=C8n (l.take (O1 16 l))++enc (l.drop (O1 16 l)):=by
 cases l with
 | nil=>exact absurd rfl h
 | cons a r =>
  unfold enc
  rw [C9r,if_neg h,B8v (a::r).length (((a::r).drop (O1 16 (a::r))).length+1) _ (by rw [List.length_drop,List.length_cons];omega) (by omega)]
def A7c (l:List Act):Prop:=∀ a ∈ l,D5 a=true
theorem A7c.drop {l:List Act} (h:A7c l) (n:Nat):A7c (l.drop n):=fun a ha=>h a (List.mem_of_mem_drop ha)
theorem A7c.take {l:List Act} (h:A7c l) (n:Nat):A7c (l.take n):=fun a ha=>h a (List.mem_of_mem_take ha)
theorem C8u {l:List Act} (h:A7c l) (k:Nat):∀ a ∈ l.take (O1 k l),Told a:=fun a ha=>B4m (D0i k l a ha) (h a (List.mem_of_mem_take ha))
theorem D7r {l:List Act} (h:A7c l):A2e (l.take (O1 16 l))=C8n (l.take (O1 16 l)) :=
 D2y (by rw [List.length_take];have:=(B4a 16 l).1;omega) (C8u h 16)
theorem eb5 (l:List Act) (ag:List UInt8→Int→List UInt8×Int) (b:List UInt8) (i:Nat):∀ (fu j:Nat),l.length - (i+j)<fu→j≤16 →
  Y3 l ag fu b (i:Int) ((i+j:Nat):Int)=if j+O1 (16 - j) (l.drop (i+j))=0 then ag (b++A2b (l.getD i Act.zero)) ((i:Int)+1)
   else ag (b++A2e ((l.drop i).take (j+O1 (16 - j) (l.drop (i+j))))) ((i+(j+O1 (16 - j) (l.drop (i+j))):Nat):Int)
 | 0,j,h,_=>by omega
 | fu+1,j,h,hj=>by
  rw [Y3]
  by_cases hc:i+j<l.length∧0<16 - j∧(l.getD (i+j) Act.zero).kind=39
  ·have e:(((decide (((i+j:Nat):Int)<(l.length:Int)))&&(decide (((i+j:Nat):Int)<((i:Int)+16))))&&(decide ((l.getD ((((i+j:Nat):Int)).toNat) Act.zero).kind=39)))=true:=by
    rw [Int.toNat_natCast];simp only [Bool.and_eq_true,decide_eq_true_eq];exact ⟨⟨by omega,by omega⟩,hc.2.2⟩
   rw [e,cond_true]
   have ih:=eb5 l ag b i fu (j+1) (by omega) (by omega)
   have e2:(((i+j:Nat):Int)+1)=((i+(j+1):Nat):Int):=by omega
   rw [e2,ih]
   obtain ⟨m,hm⟩:∃ m,16 - j=m+1:=⟨16 - j - 1,by omega⟩
   have e3:O1 (16 - j) (l.drop (i+j))=O1 (16 - (j+1)) (l.drop (i+(j+1)))+1:=by
    rw [hm,D9v hc.1 hc.2.2,show 16 - (j+1)=m by omega];rfl
   rw [e3,show j+1+O1 (16 - (j+1)) (l.drop (i+(j+1)))=j+(O1 (16 - (j+1)) (l.drop (i+(j+1)))+1) by omega]
  ·have e:(((decide (((i+j:Nat):Int)<(l.length:Int)))&&(decide (((i+j:Nat):Int)<((i:Int)+16))))&&(decide ((l.getD ((((i+j:Nat):Int)).toNat) Act.zero).kind=39)))=false:=by
    rw [Int.toNat_natCast]
    simp only [Bool.and_eq_false_iff,decide_eq_false_iff_not]
    by_cases h1:i+j<l.length
    ·by_cases h2:0<16 - j
     ·exact .inr (fun h3=>hc ⟨h1,h2,h3⟩)
     ·exact .inl (.inr (by omega))
    ·exact .inl (.inl (by omega))
   rw [e,cond_false,D7w hc]
   by_cases h0:j=0
   ·subst h0
    rw [decide_eq_true (by omega:((i+0:Nat):Int)=(i:Int)),cond_true,if_pos (by rfl),Int.toNat_natCast]
   ·rw [decide_eq_false (by omega:¬ ((i+j:Nat):Int)=(i:Int)),cond_false,if_neg (by omega),Int.toNat_natCast,Int.toNat_natCast,show i+j - i=j by omega]
    unfold C1
    rw [show (((i+j:Nat):Int) - 1)+1=((i+(j+0):Nat):Int) by omega];rfl
theorem eb4 (l:List Act) (hg:A7c l):∀ (fu i:Nat) (b:List UInt8),l.length - i<fu→i≤l.length→R2 l fu b (i:Int)=(b++enc (l.drop i),0)
 | 0,i,b,h,_=>by omega
 | fu+1,i,b,h,hi=>by
  rw [R2]
  by_cases hc:i<l.length
  ·rw [decide_eq_true (by omega:(i:Int)<(l.length:Int)),cond_true]
   have h5:=eb5 l (R2 l fu) b i (((l.length:Int) - (i:Int)).toNat+1) 0 (by omega) (by omega)
   rw [show ((i+0:Nat):Int)=(i:Int) by omega] at h5
   rw [h5]
   simp only [Nat.zero_add,Nat.add_zero,Nat.sub_zero]
   have hd:=B1n hc
   by_cases h0:O1 16 (l.drop i)=0
   ·rw [if_pos h0,show (i:Int)+1=((i+1:Nat):Int) by omega,eb4 l hg fu (i+1) _ (by omega) (by omega)]
    have ht:A2b (l.getD i Act.zero)=Q2 (l.getD i Act.zero):=D5k (hg _ (by rw [gdE hc];exact List.getElem_mem hc))
    rw [ht,hd,B7o (by rw [← hd];exact h0),List.append_assoc]
   ·have hl:=B4a 16 (l.drop i)
    rw [List.length_drop] at hl
    rw [if_neg h0,eb4 l hg fu _ _ (by omega) (by omega),D7r (hg.drop i),B7l h0,List.drop_drop,List.append_assoc]
  ·rw [decide_eq_false (by omega:¬ (i:Int)<(l.length:Int)),cond_false,List.drop_eq_nil_of_le (by omega),C0z,List.append_nil]
theorem eb0 (L:List Act):∀ (l:List Act) (t:Nat),(∀ a ∈ l,O3 a=0)→S9 L l t=R2 L (((L.length:Int) - 0).toNat+1) [] 0
 | [],t,_=>rfl
 | a::l,t,h=>by
  rw [S9,h a (List.mem_cons_self ..)]
  exact eb0 L l (t+1) (fun x hx=>h x (List.mem_cons_of_mem _ hx))
theorem B1o {l:List Act} (hl:l.length≤131072) (hm:∀ a ∈ l,D2f a.m) (hg:A7c l):U2 l=(enc l,0):=by
 unfold U2
 rw [decide_eq_false (by omega:¬ (131072:Int)<(l.length:Int)),cond_false,eb0 l l 0 (fun a ha=>(C9l (hm a ha)).2 (hg a ha))]
 have:=eb4 l hg (((l.length:Int) - 0).toNat+1) 0 [] (by omega) (Nat.zero_le _)
 rw [List.drop_zero,List.nil_append] at this
 exact this
theorem D1w {a:Act} (h:D5 a=true):enc [a]=Q2 a:=by
 by_cases hk:a.kind=39
 ·have e:O1 16 [a]=1:=by unfold O1;rw [if_pos hk];rfl
  rw [B7l (by rw [e];decide),e,D1k hk,C3b (Nat.le_of_ble_eq_true rfl) (fun x hx=>by rw [List.mem_singleton.1 hx];exact B4m hk h)]
  show C8n [a]++enc []=_;rw [C0z,List.append_nil]
 ·rw [B7o (by unfold O1;rw [if_neg hk]),C0z,List.append_nil]
end Go.Proofs.YtanighkpfmgnbaaGreatDoor
set_option linter.unusedVariables false
set_option linter.unusedSimpArgs false
set_option maxRecDepth 10000
namespace Go.Proofs.YtanighkpfmgnbaaGreatDoor
open Go Go.Fen
set_option maxRecDepth 100000 in
theorem D1s:A6y=true:=by decide +kernel
theorem D6t {a:Act} (h:(I0 a).2=0):a={Act.zero with kind:=44,text:=a.text}∨a={Act.zero with kind:=45,n:=a.n,color:=a.color}∨a={Act.zero with kind:=46,text:=a.text}:=by
 unfold I0 C1 at h
 simp only [Bool.cond_eq_ite] at h
 split at h
 ·rename_i e;simp only [Bool.and_eq_true,decide_eq_true_eq] at e;exact .inl e.1
 split at h
 ·rename_i e;simp only [Bool.and_eq_true,decide_eq_true_eq] at e;exact .inr (.inl e.1.1.1)
 split at h
 ·rename_i e;simp only [Bool.and_eq_true,decide_eq_true_eq] at e;exact .inr (.inr e.1)
 ·exact absurd h (by decide)
theorem E0z {a:Act} (h:C4m a):D2f a.m:=by
 have hp:∀ j<8,0≤pw8 j∧pw8 j≤1000:=by decide +kernel
 unfold D2f
 rcases h with rfl | ⟨j,hj,rfl⟩ | rfl | ⟨j,hj,h2,rfl⟩ | ⟨m,h0,h5,rfl⟩ | ⟨p,c,hp,hc,rfl⟩
 ·decide
 ·have:=hp j hj;show _≤pw8 j∧pw8 j≤_;omega
 ·decide
 ·have:=hp j hj;show _≤pw8 j∧pw8 j≤_;omega
 ·show _≤m∧m≤_;omega
 ·show _≤(0:Int)∧(0:Int)≤_;omega
theorem D4c {a:Act} (h:D5 a=true):D2f a.m:=by
 have hr:=B8j h
 by_cases h39:a.kind=39
 ·unfold D5 at h
  rw [decide_eq_true h39,cond_true,decide_eq_true_iff] at h
  exact E0z (D7o h)
 unfold D5 R4 C1 at h
 rw [decide_eq_false h39,cond_false] at h
 by_cases h4:a.kind=44∨a.kind=45∨a.kind=46
 ·have h8:(I0 a).2=0:=by
   rcases h4 with e | e | e<;>rw [e] at h<;>exact of_decide_eq_true h
  rcases D6t h8 with e | e | e<;>rw [e]<;>exact ⟨by show _≤(0:Int);omega,by show (0:Int)≤_;omega⟩
 ·simp only [show ¬ a.kind=44 by omega,show ¬ a.kind=45 by omega,show ¬ a.kind=46 by omega,decide_false,cond_false,Bool.and_eq_true] at h
  unfold D2f
  by_cases h1:a.kind=1
  ·have hn:=h.1.1
   unfold M3 at hn
   rw [decide_eq_true h1,cond_true] at hn
   simp only [Bool.and_eq_true,decide_eq_true_eq] at hn
   omega
  ·unfold D1b at hr;omega
theorem D3i {x:Int} (h0:0≤x) (h1:x≤16777215):F4 ⟨2,x⟩=0:=by
 rw [A8p]
 show (bif ((decide ((0:Int)≤x))&&(decide (x≤16777215))) then (0:Int) else 130)=0
 rw [decide_eq_true h0,decide_eq_true h1];rfl
theorem D7l {x:Int} (h0:0≤x) (h1:x≤255):F4 ⟨1,x⟩=0:=by
 rw [A8p]
 show (bif ((decide ((0:Int)≤x))&&(decide (x≤255))) then (0:Int) else 130)=0
 rw [decide_eq_true h0,decide_eq_true h1];rfl
theorem D0k:F4 Col.zero=0:=by decide +kernel
theorem E5y:∀ k<8,∃ j,j<8∧(([4,8,16,32,64,128]:List Int)++([1,2]:List Int)).getD k 0=pw8 j:=by
 intro k hk
 have:∀ k<8,(([4,8,16,32,64,128]:List Int)++([1,2]:List Int)).getD k 0=pw8 ((k+2) % 8):=by decide +kernel
 exact ⟨(k+2) % 8,by omega,this k hk⟩
theorem E5d:∀ k<7,(k=6∧(([4,8,16,32,64,128]:List Int)++([3]:List Int)).getD k 0=3)∨(k<6∧(([4,8,16,32,64,128]:List Int)++([3]:List Int)).getD k 0=pw8 (k+2)):=by decide +kernel
theorem D9z (d:Drf) (hd:B0u d):C4m (A3m d):=by
 unfold B0u at hd
 have hn:0≤d.n % 7∧d.n % 7<7:=by omega
 unfold A3m
 by_cases h1:d.n % 7=1
 ·obtain ⟨j,hj,e⟩:=E5y (d.m % 8).toNat (by omega)
  rw [decide_eq_true h1,cond_true,e,h1];exact .inr (.inl ⟨j,hj,rfl⟩)
 by_cases h2:d.n % 7=2
 ·rw [decide_eq_false h1,decide_eq_true h2,cond_false,cond_true,h2]
  rcases E5d (d.m % 7).toNat (by omega) with ⟨_,e⟩ | ⟨hk,e⟩
  ·rw [e];exact .inr (.inr (.inl rfl))
  ·rw [e];exact .inr (.inr (.inr (.inl ⟨_,by omega,by omega,rfl⟩)))
 by_cases h3:d.n % 7=3
 ·rw [decide_eq_false h1,decide_eq_false h2,decide_eq_true h3,cond_false,cond_false,cond_true,h3]
  exact .inr (.inr (.inr (.inr (.inl ⟨d.m % 6,by omega,by omega,rfl⟩))))
 have hj:∀ p:Int,(p=4∨p=5∨p=6)→d.n % 7=p→C4m (A0r d true):=by
  intro p hp e
  have key:∀ c:Col,F4 c=0→C4m {Act.zero with kind:=39,n:=(d.n % 7),color:=c}:=fun c hc=>.inr (.inr (.inr (.inr (.inr ⟨p,c,hp,hc,by rw [e];rfl⟩))))
  unfold A0r
  simp only [Bool.cond_eq_ite]
  repeat' split
  ·exact key _ (D3i (by omega) (by omega))
  ·exact key _ (D7l (by omega) (by omega))
  ·exact key _ (D7l (by omega) (by omega))
  ·exact key _ D0k
  ·exact key _ D0k
 by_cases h4:d.n % 7=4
 ·rw [decide_eq_false h1,decide_eq_false h2,decide_eq_false h3,decide_eq_true h4];exact hj 4 (by omega) h4
 by_cases h5:d.n % 7=5
 ·rw [decide_eq_false h1,decide_eq_false h2,decide_eq_false h3,decide_eq_false h4,decide_eq_true h5];exact hj 5 (by omega) h5
 by_cases h6:d.n % 7=6
 ·rw [decide_eq_false h1,decide_eq_false h2,decide_eq_false h3,decide_eq_false h4,decide_eq_false h5,decide_eq_true h6];exact hj 6 (by omega) h6
 ·have h0:d.n % 7=0:=by omega
  rw [decide_eq_false h1,decide_eq_false h2,decide_eq_false h3,decide_eq_false h4,decide_eq_false h5,decide_eq_false h6]
  show C4m {Act.zero with kind:=39,n:=(d.n % 7)}
  rw [h0];exact .inl rfl
theorem C5v (d:Drf) (i k:Nat) (ag:Nat→Act) (hag:D5 (ag (k+1))=true):∀ (fu b:Nat),5 - b<fu→D5 (L9 d i k ag fu b)=true
 | 0,_,h=>by omega
 | fu+1,b,h=>by
  rw [L9]
  by_cases hb:b<5
  ·rw [decide_eq_true (by omega:(b:Int)<5),cond_true]
   simp only [Bool.cond_eq_ite]
   split
   ·assumption
   split
   ·assumption
   split
   ·assumption
   ·exact C5v d i k ag hag fu (b+1) (by omega)
  ·rw [decide_eq_false (by omega:¬ (b:Int)<5),cond_false];exact hag
theorem C5p (d:Drf) (i:Nat) (ag:Nat→Act) (hag:D5 (ag (i+1))=true):∀ (fu k:Nat),5 - k<fu→D5 (K0 d i ag fu k)=true
 | 0,_,h=>by omega
 | fu+1,k,h=>by
  rw [K0]
  by_cases hb:k<5
  ·rw [decide_eq_true (by omega:(k:Int)<5),cond_true]
   exact C5v d i k _ (C5p d i ag hag fu (k+1) (by omega)) _ _ (by omega)
  ·rw [decide_eq_false (by omega:¬ (k:Int)<5),cond_false];exact hag
theorem D0n (d:Drf):∀ (fu i:Nat),5 - i<fu→D5 (J4 d fu i)=true
 | 0,_,h=>by omega
 | fu+1,i,h=>by
  rw [J4]
  by_cases hb:i<5
  ·rw [decide_eq_true (by omega:(i:Int)<5),cond_true]
   exact C5p d i _ (D0n d fu (i+1) (by omega)) _ _ (by omega)
  ·rw [decide_eq_false (by omega:¬ (i:Int)<5),cond_false];decide +kernel
theorem D9x {x:Int} (h:F4 ⟨2,x⟩=0):A1d ⟨2,x⟩=(x,true):=by
 unfold A1d;rw [h];rfl
theorem D4g {x:Int} (h:F4 ⟨2,x⟩=0):(W0 ⟨2,x⟩).2=0:=by
 unfold W0
 rw [h,D9x h];rfl
theorem D7d {x:Int} (h0:0≤x) (h1:x≤16777215):(Z7 ⟨2,x⟩).2=0:=by
 have h:=D4g (D3i h0 h1)
 rcases D0j (c:=⟨2,x⟩) rfl with e | ⟨e,_⟩
 ·rw [← e];exact h
 ·exact absurd h e
theorem C2h (x y:Act) (hy:D5 y=true):D5 (bif (!(D5 x)) then y else x)=true:=by
 cases h:D5 x with
 | true=>exact h
 | false=>exact hy
theorem D9q {n x:Int} (hn:0≤n∧n≤255) (hx:0≤x∧x≤16777215):D5 ⟨45,n,0,⟨2,x⟩,[]⟩=true:=by
 have e5:=D7d hx.1 hx.2
 have e:D5 ⟨45,n,0,⟨2,x⟩,[]⟩=decide ((I0 ⟨45,n,0,⟨2,x⟩,[]⟩).2=0):=by
  unfold D5 R4
  simp only [Int.reduceEq,decide_true,decide_false,cond_true,cond_false,C1]
 rw [e,decide_eq_true_iff]
 have e4:decide ((⟨45,n,0,⟨2,x⟩,[]⟩:Act)={Act.zero with kind:=44,text:=[]})=false:=decide_eq_false (fun h=>by injection h with h;exact absurd h (by decide))
 have e45:decide ((⟨45,n,0,⟨2,x⟩,[]⟩:Act)={Act.zero with kind:=45,n:=n,color:=⟨2,x⟩})=true:=decide_eq_true rfl
 unfold I0
 simp only [e4,e45,C1,Bool.false_and,cond_false,decide_true,Bool.true_and,decide_eq_true hn.1,decide_eq_true hn.2,cond_true,e5]
theorem D7z:D5 {Act.zero with kind:=44,text:=[116]}=true:=by decide +kernel
theorem D6m:D5 {Act.zero with kind:=46,text:=[116]}=true:=by decide +kernel
theorem B8d {b:Bool} {x y:Act} (h1:b=true→D5 x=true) (h2:b=false→D5 y=true):D5 (bif b then x else y)=true:=by
 cases b with
 | true=>exact h1 rfl
 | false=>exact h2 rfl
theorem D4o {a:Act} (hp:C4m a):D5 a=true:=by
 have hT:=B4c hp
 have hk:a.kind=39:=by
  rcases hp with e | ⟨j,hj,e⟩ | e | ⟨j,hj,h2,e⟩ | ⟨m,h0,h5,e⟩ | ⟨p,c,hp,hc,e⟩<;>rw [e]<;>rfl
 unfold D5
 rw [decide_eq_true hk,cond_true,hT.rchk];rfl
theorem D4h (d:Drf) (hd:B0u d):D5 (I4 d)=true:=by
 have hp:=D4o (D9z d hd)
 have h8:=D0n d ((5 - 0)+1) 0 (by omega)
 unfold B0u at hd
 unfold I4
 have hw:0≤IntKind.i64.wrap ((1:Int)+d.kind % 46):=by rw [D8f (by omega:0≤(1:Int)+d.kind % 46∧(1:Int)+d.kind % 46≤1000000000)];omega
 generalize IntKind.i64.wrap ((1:Int)+d.kind % 46)=w at hw ⊢
 refine B8d (fun h=>?_) (fun h=>?_)
 ·rw [Bool.or_eq_true,decide_eq_true_iff,decide_eq_true_iff] at h
  rcases h with rfl | rfl
  ·exact C2h _ _ D7z
  ·exact C2h _ _ D6m
 ·refine B8d (fun h2=>?_) (fun h2=>?_)
  ·obtain rfl:=of_decide_eq_true h2
   exact D9q (by omega) (by omega)
  ·exact B8d (fun _=>hp) (fun _=>h8)
end Go.Proofs.YtanighkpfmgnbaaGreatDoor
set_option linter.unusedVariables false
set_option linter.unusedSimpArgs false
set_option maxRecDepth 10000
namespace Go.Proofs.YtanighkpfmgnbaaGreatDoor
open Go Go.Fen
theorem C9t (l:List Drf) (hd:∀ d ∈ l,B0u d):∀ (fu:Nat) (out:List Act) (i:Nat),A7c out→A7c (W4 l fu out i)
 | 0,_,_,_=>fun a ha=>by cases ha
 | fu+1,out,i,h=>by
  rw [W4]
  by_cases hc:(i:Int)<(l.length:Int)∧(i:Int)<40
  ·rw [decide_eq_true hc.1,decide_eq_true hc.2]
   refine C9t l hd fu _ _ ?_
   intro a ha
   rcases List.mem_append.1 ha with ha | ha
   ·exact h a ha
   ·rw [List.mem_singleton.1 ha]
    exact D4h _ (hd _ (by rw [gdE (by omega)];exact List.getElem_mem (by omega)))
  ·have e:((decide ((i:Int)<(l.length:Int)))&&(decide ((i:Int)<40)))=false:=by
    rw [Bool.and_eq_false_iff,decide_eq_false_iff_not,decide_eq_false_iff_not];omega
   rw [e,cond_false];exact h
theorem C6g (l:List Drf) (hd:∀ d ∈ l,B0u d):A7c (A5x l):=C9t l hd _ _ _ (fun a ha=>by cases ha)
end Go.Proofs.YtanighkpfmgnbaaGreatDoor
set_option linter.unusedVariables false
set_option linter.unusedSimpArgs false
set_option maxRecDepth 10000
namespace Go.Proofs.YtanighkpfmgnbaaGreatDoor
open Go Go.Fen
theorem A8u {a:Act} {r:List Act} {k:Nat} (h:a.kind≠39):O1 k (a::r)=0:=by
 cases k with
 | zero=>rfl
 | succ k=>exact if_neg h
theorem A6q {a:Act} {r:List Act} {k:Nat} (h:a.kind=39):O1 (k+1) (a::r)=O1 k r+1:=if_pos h
theorem C5s:∀ (k:Nat) (l:List Act) (n:Nat),O1 k l≤n→O1 k (l.take n)=O1 k l
 | 0,l,n,_=>rfl
 | k+1,[],n,_=>by rw [List.take_nil]
 | k+1,a::r,n,h=>by
  by_cases ha:a.kind=39
  ·rw [A6q ha] at h
   obtain ⟨m,rfl⟩:∃ m,n=m+1:=⟨n - 1,by omega⟩
   rw [List.take_succ_cons,A6q ha,A6q ha,C5s k r m (by omega)]
  ·rw [A8u ha]
   cases n with
   | zero=>rfl
   | succ m=>rw [List.take_succ_cons];exact A8u ha
theorem B8u:∀ (k:Nat) (l:List Act) (j:Nat),j<O1 k l→(l.getD j Act.zero).kind=39
 | 0,l,j,h=>by simp [O1] at h
 | k+1,[],j,h=>by simp [O1] at h
 | k+1,a::r,j,h=>by
  by_cases ha:a.kind=39
  ·rw [A6q ha] at h
   cases j with
   | zero=>exact ha
   | succ j=>exact B8u k r j (by omega)
  ·rw [A8u ha] at h;omega
theorem B8s:∀ (m:Nat) (l:List Act) (k:Nat),l.length≤m→k≤l.length→¬ (0<k∧k<l.length∧(l.getD (k - 1) Act.zero).kind=39∧(l.getD k Act.zero).kind=39)→enc l=enc (l.take k)++enc (l.drop k)
 | _,l,0,_,_,_=>by rw [List.take_zero,List.drop_zero,C0z,List.nil_append]
 | _,[],k+1,_,h,_=>by simp at h
 | 0,a::r,k+1,h,_,_=>by simp at h
 | m+1,a::r,k+1,hm,hk,hb=>by
  simp only [List.length_cons] at hm hk
  by_cases h0:O1 16 (a::r)=0
  ·have ha:a.kind≠39:=fun e=>by rw [A6q e] at h0;omega
   rw [B7o h0,List.take_succ_cons,List.drop_succ_cons,B7o (A8u ha),List.append_assoc]
   congr 1
   refine B8s m r k (by omega) (by omega) fun hx=>hb ?_
   obtain ⟨j,rfl⟩:∃ j,k=j+1:=⟨k - 1,by omega⟩
   exact ⟨by omega,by simp only [List.length_cons];omega,hx.2.2.1,hx.2.2.2⟩
  ·by_cases hlt:O1 16 (a::r)≤k+1
   ·have hl:=B4a 16 (a::r)
    have ht:=C5s 16 (a::r) (k+1) hlt
    rw [B7l h0,B7l (l:=(a::r).take (k+1)) (by rw [ht];exact h0),ht,List.append_assoc,List.take_take,Nat.min_eq_left hlt]
    congr 1
    have hd:((a::r).take (k+1)).drop (O1 16 (a::r))=((a::r).drop (O1 16 (a::r))).take (k+1 - O1 16 (a::r)):=by rw [List.drop_take]
    have hdd:((a::r).drop (O1 16 (a::r))).drop (k+1 - O1 16 (a::r))=(a::r).drop (k+1):=by rw [List.drop_drop];congr 1;omega
    have hlen:((a::r).drop (O1 16 (a::r))).length=r.length+1 - O1 16 (a::r):=by rw [List.length_drop,List.length_cons]
    have hge:∀ j,((a::r).drop (O1 16 (a::r))).getD j Act.zero=(a::r).getD (O1 16 (a::r)+j) Act.zero:=fun j=>by
     simp only [List.getD_eq_getElem?_getD,List.getElem?_drop]
    have ih:=B8s m ((a::r).drop (O1 16 (a::r))) (k+1 - O1 16 (a::r)) (by rw [hlen];omega) (by rw [hlen];omega) (fun hx=>hb (by
     rw [hlen,hge,hge] at hx
     refine ⟨by omega,by simp only [List.length_cons];omega,?_,?_⟩
     ·have:=hx.2.2.1;rw [show O1 16 (a::r)+(k+1 - O1 16 (a::r) - 1)=k+1 - 1 by omega] at this;exact this
     ·have:=hx.2.2.2;rw [show O1 16 (a::r)+(k+1 - O1 16 (a::r))=k+1 by omega] at this;exact this))
    rw [ih,hdd,hd]
   ·exfalso
    refine hb ⟨by omega,?_,B8u 16 _ _ (by omega),B8u 16 _ _ (by omega)⟩
    have:=(B4a 16 (a::r)).2
    omega
def C2j (a:Act):Nat:=(pr2 [] [J8 a]).length+1
def A4g:Nat→List Act→Nat
 | _,[]=>0
 | f,a::r=>if a.kind=39 then (match f with | 0=>2+C2j a+A4g 15 r | f+1=>C2j a+A4g f r) else (Q2 a).length+A4g 0 r
theorem C4v:∀ (l:List Act),(∀ f g,g≤f→f≤15→A4g f l≤A4g g l)∧(∀ f g,f≤15→g≤15→A4g f l≤2+A4g g l)
 | []=>⟨fun f g _ _=>Nat.le_refl _,fun f g _ _=>Nat.zero_le _⟩
 | a::r=>by
  obtain ⟨h1,h2⟩:=C4v r
  by_cases ha:a.kind=39
  ·refine ⟨fun f g hg hf=>?_,fun f g hf hg=>?_⟩
   ·unfold A4g
    rw [if_pos ha,if_pos ha]
    cases f with
    | zero =>
     obtain rfl:g=0:=by omega
     exact Nat.le_refl _
    | succ f =>
     cases g with
     | zero=>have:=h2 f 15 (by omega) (by omega);simp only;omega
     | succ g=>have:=h1 f g (by omega) (by omega);simp only;omega
   ·unfold A4g
    rw [if_pos ha,if_pos ha]
    cases f with
    | zero =>
     cases g with
     | zero=>simp only;omega
     | succ g=>have:=h1 15 g (by omega) (by omega);simp only;omega
    | succ f =>
     cases g with
     | zero=>have:=h2 f 15 (by omega) (by omega);simp only;omega
     | succ g=>have:=h2 f g (by omega) (by omega);simp only;omega
  ·refine ⟨fun f g _ _=>?_,fun f g _ _=>?_⟩<;>· unfold A4g;rw [if_neg ha,if_neg ha];omega
theorem C5n (f:Nat) (a:Act) (r:List Act):A4g f (a::r)=if a.kind=39 then (match f with | 0=>2+C2j a+A4g 15 r | f+1=>C2j a+A4g f r) else (Q2 a).length+A4g 0 r:=by cases f<;>rfl
theorem A9t:∀ (x y:List Act) (f:Nat),f≤15→A4g f (x++y)≤A4g f x+A4g 0 y
 | [],y,f,hf=>by
  have:=(C4v y).1 f 0 (Nat.zero_le _) hf
  show A4g f y≤0+A4g 0 y;omega
 | a::x,y,f,hf=>by
  rw [List.cons_append,C5n,C5n]
  by_cases ha:a.kind=39
  ·rw [if_pos ha,if_pos ha]
   cases f with
   | zero=>have:=A9t x y 15 (Nat.le_refl _);simp only;omega
   | succ f=>have:=A9t x y f (by omega);simp only;omega
  ·rw [if_neg ha,if_neg ha]
   have:=A9t x y 0 (by omega);omega
theorem D3f:∀ (l:List (List Int)),(∀ r ∈ l,A8o r)→(pr2 [59] l).length=(l.map fun r=>(pr2 [] [r]).length+1).sum∧(l≠[]→(pr2 [] l).length+1=(l.map fun r=>(pr2 [] [r]).length+1).sum)
 | [],_=>⟨rfl,fun h=>absurd rfl h⟩
 | r::l,h=>by
  obtain ⟨h1,h2⟩:=D3f l (fun x hx=>h x (List.mem_cons_of_mem _ hx))
  have hr:=h r (List.mem_cons_self ..)
  have e59:pr3 [59] r=[59]++pr3 [] r:=D6s hr.1
  have e1:pr2 [] [r]=pr3 [] r:=by simp [pr2]
  have e2:pr2 [] (r::l)=pr3 [] r++pr2 [59] l:=rfl
  have e3:pr2 [59] (r::l)=pr3 [59] r++pr2 [59] l:=rfl
  rw [List.map_cons,List.sum_cons,e1]
  refine ⟨?_,fun _=>?_⟩
  ·rw [e3,e59,List.length_append,List.length_append,h1,List.length_singleton];omega
  ·rw [e2,List.length_append,h1];omega
theorem D6k {l:List Act} (h:∀ a ∈ l,Told a) (hne:l≠[]):(C8n l).length=2+(l.map C2j).sum:=by
 have hr:=C7r h
 have h2:=(D3f (l.map J8) hr).2 (by simpa using hne)
 unfold C8n
 rw [List.length_append,List.length_append]
 rw [List.map_map] at h2
 have e:((fun r=>(pr2 [] [r]).length+1) ∘ J8)=C2j:=rfl
 rw [e] at h2
 simp only [List.length_cons,List.length_nil]
 omega
theorem C9g:∀ (k:Nat) (l:List Act),k≤15→A4g k l=((l.take (O1 k l)).map C2j).sum+A4g (k - O1 k l) (l.drop (O1 k l))
 | 0,l,_=>by simp [O1]
 | k+1,[],_=>by simp [O1,A4g]
 | k+1,a::r,h=>by
  by_cases ha:a.kind=39
  ·rw [A6q ha,List.take_succ_cons,List.drop_succ_cons,List.map_cons,List.sum_cons,Nat.add_sub_add_right]
   have ih:=C9g k r (by omega)
   conv=>lhs;unfold A4g
   rw [if_pos ha]
   simp only
   omega
  ·rw [A8u ha];simp
theorem C5j:∀ (k:Nat) (l:List Act),O1 k l<k→∀ b s,l.drop (O1 k l)=b::s→b.kind≠39
 | 0,l,h,_,_,_=>by simp [O1] at h
 | k+1,[],h,b,s,e=>by simp [O1] at e
 | k+1,a::r,h,b,s,e=>by
  by_cases ha:a.kind=39
  ·rw [A6q ha] at h e
   exact C5j k r (by omega) b s e
  ·rw [A8u ha,List.drop_zero] at e
   injection e with e1 _
   rw [← e1];exact ha
theorem D4t {l:List Act} (f g:Nat) (h:∀ b s,l=b::s→b.kind≠39):A4g f l=A4g g l:=by
 cases l with
 | nil=>rfl
 | cons b s=>unfold A4g;rw [if_neg (h b s rfl),if_neg (h b s rfl)]
theorem B3u:∀ (m:Nat) (l:List Act),l.length≤m→A7c l→(enc l).length=A4g 0 l
 | 0,l,h,_=>by
  obtain rfl:=List.length_eq_zero_iff.1 (Nat.le_zero.1 h);rfl
 | m+1,[],_,_=>rfl
 | m+1,a::r,h,hg=>by
  simp only [List.length_cons] at h
  by_cases ha:a.kind=39
  ·have hl:O1 16 (a::r)=O1 15 r+1:=A6q ha
   have hle:=B4a 15 r
   rw [B7l (by rw [hl];omega),List.length_append,D6k (C8u hg 16) (by rw [hl,List.take_succ_cons];simp),B3u m _ (by rw [List.length_drop,List.length_cons];omega) (hg.drop _),hl,List.take_succ_cons,List.drop_succ_cons,List.map_cons,List.sum_cons]
   have hr:=C9g 15 r (Nat.le_refl _)
   have e:A4g (15 - O1 15 r) (r.drop (O1 15 r))=A4g 0 (r.drop (O1 15 r)):=by
    by_cases h15:O1 15 r<15
    ·exact D4t _ _ (C5j 15 r h15)
    ·rw [show 15 - O1 15 r=0 by omega]
   conv=>rhs;unfold A4g
   rw [if_pos ha]
   simp only
   omega
  ·rw [B7o (A8u ha),List.length_append,B3u m r (by omega) (hg.drop 1)]
   conv=>rhs;unfold A4g
   rw [if_neg ha]
theorem E1l {l:List Act} (hg:A7c l) (k:Nat):(enc l).length≤(enc (l.take k)).length+(enc (l.drop k)).length:=by
 rw [B3u _ l (Nat.le_refl _) hg,B3u _ _ (Nat.le_refl _) (hg.take k),B3u _ _ (Nat.le_refl _) (hg.drop k)]
 have:=A9t (l.take k) (l.drop k) 0 (by omega)
 rwa [List.take_append_drop] at this
theorem E2l (cp:Int):A6j cp≠[]:=by
 unfold A6j A2l
 simp only [Bool.cond_eq_ite]
 repeat' split
 all_goals exact List.cons_ne_nil _ _
theorem E3c {a:Act} (h:D5 a=true):Q2 a≠[]:=by
 by_cases h39:a.kind=39
 ·rw [D1k h39,C3b (Nat.le_of_ble_eq_true rfl) (fun x hx=>by rw [List.mem_singleton.1 hx];exact B4m h39 h)]
  exact List.cons_ne_nil _ _
 unfold Q2 C1
 rw [← D2a]
 simp only [Bool.cond_eq_ite,Bool.not_eq_true',decide_eq_false_iff_not,decide_eq_true_eq]
 repeat' split
 all_goals first|exact E2l _|assumption|exact List.cons_ne_nil _ _|contradiction
theorem C9f (row:List Act) (hg:A7c row) (h40:row.length≤40) (A B C:List UInt8×Int) (hl:C.1.length≤A.1.length+B.1.length):∀ (l:List Act) (i:Nat),l=row.drop i→N6 row A B C l i=true
 | [],i,_=>by
  show decide ((C.1.length:Int)≤((A.1.length:Int)+(B.1.length:Int)))=true
  rw [decide_eq_true_eq];omega
 | a::l,i,e=>by
  have hi:i<row.length:=by
   rcases Nat.lt_or_ge i row.length with h | h
   ·exact h
   ·rw [List.drop_eq_nil_of_le h] at e;cases e
  have hd:=B1n hi
  rw [← e] at hd
  injection hd with h1 h2
  have hr:D5 a=true:=by rw [h1,gdE hi];exact hg _ (List.getElem_mem hi)
  have hs:(row.drop i).take ((i+1) - i)=[a]:=by rw [← e,Nat.add_sub_cancel_left];rfl
  rw [N6,hs]
  have h1':B6s a=(Q2 a,0):=by
   show U2 [a]=_
   rw [B1o (by simp) (fun x hx=>by rw [List.mem_singleton.1 hx];exact D4c hr) (fun x hx=>by rw [List.mem_singleton.1 hx];exact hr),D1w hr]
  have h2':U2 [a]=(Q2 a,0):=h1'
  rw [h1',h2']
  have hne:¬ (((Q2 a).length:Int)=0):=by
   have:=E3c hr
   have:=List.length_pos_iff.2 this
   omega
  show (bif ((((!decide ((0:Int)=0))||(!decide ((0:Int)=0)))||(!(decide (Q2 a=Q2 a))))||(decide (((Q2 a).length:Int)=0))) then false else N6 row A B C l (i+1))=true
  rw [decide_eq_false hne,decide_eq_true (rfl:Q2 a=Q2 a)]
  exact C9f row hg h40 A B C hl l (i+1) h2
theorem C4l (l:List Drf) (at_:UInt8) (hd:∀ d ∈ l,B0u d):A4c l at_=true:=by
 have hg:=C6g l hd
 have h40:=B4x l
 unfold A4c
 rw [D1s]
 simp only [C1,Bool.not_true,cond_false]
 generalize A5x l=row at hg h40
 have hk0:=Int.tmod_nonneg ((row.length:Int)+1) (show 0≤(at_.toNat:Int) by omega)
 have hk1:=Int.tmod_lt_of_pos (at_.toNat:Int) (show 0<(row.length:Int)+1 by omega)
 generalize Int.tmod (at_.toNat:Int) ((row.length:Int)+1)=k at hk0 hk1
 obtain ⟨n,rfl⟩:∃ n:Nat,k=n:=⟨k.toNat,by omega⟩
 rw [Int.toNat_natCast]
 have hm:∀ x:List Act,A7c x→∀ a ∈ x,D2f a.m:=fun x hx a ha=>D4c (hx a ha)
 rw [B1o (l:=row.take n) (by rw [List.length_take];omega) (hm _ (hg.take n)) (hg.take n),B1o (l:=row.drop n) (by rw [List.length_drop];omega) (hm _ (hg.drop n)) (hg.drop n),B1o (l:=row) (by omega) (hm _ hg) hg]
 show (bif _ then false else N6 row _ _ _ row 0)=true
 have hp:=C9f row hg h40 (enc (row.take n),0) (enc (row.drop n),0) (enc row,0) (E1l hg n) row 0 rfl
 rw [hp]
 by_cases hb:0<n∧n<row.length∧(row.getD (n - 1) Act.zero).kind=39∧(row.getD n Act.zero).kind=39
 ·rw [decide_eq_true hb.2.2.1,decide_eq_true hb.2.2.2,decide_eq_true (by omega:(0:Int)<(n:Int)),decide_eq_true (by omega:(n:Int)<(row.length:Int))]
  rfl
 ·rw [B8s _ row n (Nat.le_refl _) (by omega) hb,decide_eq_true (rfl:enc (row.take n)++enc (row.drop n)=_)]
  show (bif (_&&false) then false else true)=true
  rw [Bool.and_false];rfl
end Go.Proofs.YtanighkpfmgnbaaGreatDoor
