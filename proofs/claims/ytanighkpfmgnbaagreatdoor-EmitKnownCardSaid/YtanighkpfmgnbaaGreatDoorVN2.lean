import Derived.Test.YtanighkpfmgnbaaGreatDoorVN1
import Derived.Test.YtanighkpfmgnbaaGreatDoorVB5
set_option linter.unusedVariables false
set_option linter.unusedSimpArgs false
set_option linter.unnecessarySimpa false
set_option maxRecDepth 10000
namespace Go.Proofs.YtanighkpfmgnbaaGreatDoor
open Go Go.Fen
theorem B2k {α:Type} (a w:Act) (f:Unit→Option α):Option.bind (A3w a w) f=bif decide (a=w) then f () else none:=by
 unfold A3w S4
 cases decide (a=w)<;>rfl
theorem A8g {α:Type} (b:Bool) (f:Unit→Option α):Option.bind (S4 b) f=bif b then f () else none:=by
 unfold S4;cases b<;>rfl
theorem C7c {α:Type} (t:List UInt8) (x:α):Option.bind (A4f t) (fun _=>some x)=bif A4p t then some x else none:=by
 rw [← C5z];cases A4f t<;>rfl
theorem D6d (n m:Int) (c:Col) (t:List UInt8):X3 n m c t=K1 ⟨44,n,m,c,t⟩:=by
 unfold X3 Q4 A3l
 rw [A8g,cond_true,B2k,C7c]
 have hB:decide ((⟨44,n,m,c,t⟩:Act)={Act.zero with kind:=45,n:=n,color:=c})=false:=decide_eq_false (fun h=>by injection h with h;exact absurd h (by decide))
 have hC:decide ((⟨44,n,m,c,t⟩:Act)={Act.zero with kind:=46,text:=t})=false:=decide_eq_false (fun h=>by injection h with h;exact absurd h (by decide))
 unfold K1
 simp only [hB,hC,Bool.false_and,cond_false]
 cases decide ((⟨44,n,m,c,t⟩:Act)={Act.zero with kind:=44,text:=t})<;>cases A4p t<;>rfl
theorem D5y (n m:Int) (c:Col) (t:List UInt8):U0 n m c t=K1 ⟨45,n,m,c,t⟩:=by
 unfold U0 O5 A2y
 rw [A8g,cond_true,B2k]
 have hA:decide ((⟨45,n,m,c,t⟩:Act)={Act.zero with kind:=44,text:=t})=false:=decide_eq_false (fun h=>by injection h with h;exact absurd h (by decide))
 have hC:decide ((⟨45,n,m,c,t⟩:Act)={Act.zero with kind:=46,text:=t})=false:=decide_eq_false (fun h=>by injection h with h;exact absurd h (by decide))
 unfold K1 C1
 simp only [hA,hC,Bool.false_and,cond_false]
 cases decide ((⟨45,n,m,c,t⟩:Act)={Act.zero with kind:=45,n:=n,color:=c}) with
 | false=>rfl
 | true =>
  simp only [A8g,cond_true,Bool.true_and]
  by_cases hk:c.kind=2
  ·by_cases h0:(0:Int)≤n
   ·rw [decide_eq_true hk,decide_eq_true h0,B8o h0]
    rcases D2f hk with e | ⟨e1,e2⟩
    ·rw [e]
     cases decide ((A4d c).2=0)<;>cases decide (n≤255)<;>rfl
    ·rw [decide_eq_false e1,decide_eq_false e2]
     cases decide (n≤255)<;>rfl
   ·rw [decide_eq_false h0]
    cases decide ((W5 c).2=0)<;>cases decide (c.kind=2)<;>rfl
  ·rw [decide_eq_false hk]
   cases decide ((W5 c).2=0)<;>cases decide ((0:Int)≤n)<;>cases decide (n≤255)<;>rfl
theorem D5r (n m:Int) (c:Col) (t:List UInt8):S7 n m c t=K1 ⟨46,n,m,c,t⟩:=by
 unfold S7 O6 A3g
 rw [A8g,cond_true,B2k]
 have hA:decide ((⟨46,n,m,c,t⟩:Act)={Act.zero with kind:=44,text:=t})=false:=decide_eq_false (fun h=>by injection h with h;exact absurd h (by decide))
 have hB:decide ((⟨46,n,m,c,t⟩:Act)={Act.zero with kind:=45,n:=n,color:=c})=false:=decide_eq_false (fun h=>by injection h with h;exact absurd h (by decide))
 unfold K1 C1
 simp only [hA,hB,Bool.false_and,cond_false]
 cases decide ((⟨46,n,m,c,t⟩:Act)={Act.zero with kind:=46,text:=t}) with
 | false=>rfl
 | true =>
  simp only [A8g,cond_true,Bool.true_and]
  by_cases h:(t.length:Int)≤378
  ·have h2:(S0 t).2=0:=by rw [C1n (by omega)]
   rw [decide_eq_true h,decide_eq_true h2,D8d (by omega)]
   rfl
  ·rw [decide_eq_false h];rfl
def C6g (n:Int):Prop:=-9223372036854775808≤n∧n≤9223372036854775807
theorem C8t {c:Bool}:(bif c then (200:Int) else 0)=0 ↔ c=false:=by cases c<;>decide
theorem B3s {c:Bool}:(bif !c then (200:Int) else 0)=0 ↔ c=true:=by cases c<;>decide
def C2n:List Int:=[17,18,19,20,26,27,35,38,40,41,2,3,4,5,6,8,9,10,11,12,13,15,16,7,14,42,21,33,22,23,24,25,28,29,30,31,32,34,36,37,43]
theorem C9w (k:Int):G3 k B7=C2n.contains k:=by rw [A8k];rfl
theorem C3v (lo hi n:Int):A2 ({Spn.zero with lo:=lo,hi:=hi}) n=(decide (lo≤n)&&decide (n≤hi)):=rfl
theorem D4d (n lo hi:Int):R0 n lo hi=(decide (lo≤n)&&decide (n≤hi)):=by unfold R0;rfl
theorem D0k (n:Int):(decide ((0:Int)≤n)&&decide (n≤0))=decide (n=0):=by
 by_cases h:n=0
 ·subst h;rfl
 ·rw [decide_eq_false h,Bool.and_eq_false_iff,decide_eq_false_iff_not,decide_eq_false_iff_not];omega
theorem C8y {a:Act} (hk:a.kind≠1) (h:C2n.contains a.kind=true):(D4 a.kind a.n&&D8 a.kind a.m)=P3 a:=by
 obtain ⟨k,n,m,c,t⟩:=a
 simp only [C2n,List.contains_cons,List.contains_nil,Bool.or_false,Bool.or_eq_true,beq_iff_eq] at h
 unfold P3 H2 V8 Z3 J4 W0 A1d
 rcases h with h | h | h | h | h | h | h | h | h | h | h | h | h | h | h | h | h | h | h | h | h | h | h | h | h | h | h | h | h | h | h | h | h | h | h | h | h | h | h | h | h<;>subst h <;>
  simp only [D4,D8,Int.reduceEq,decide_true,decide_false,cond_true,cond_false,C3v,D4d,D0k,V9]
theorem C8d {a:Act} (h1:a.kind≠1) (h39:a.kind≠39) (h44:a.kind≠44) (h45:a.kind≠45) (h46:a.kind≠46) (h:C2n.contains a.kind=false):P3 a=false:=by
 simp only [C2n,List.contains_cons,List.contains_nil,Bool.or_false,Bool.or_eq_false_iff,beq_eq_false_iff_ne,ne_eq] at h
 unfold P3 H2 V8 Z3 J4 W0
 simp only [h,h1,decide_false,cond_false]
theorem C4i {a:Act} (hm:C6g a.m):L7 a=0 ↔ N2 a=true:=by
 unfold L7 N2 W9 C1
 by_cases h39:a.kind=39
 ·have e:(⟨39,a.n,a.m,a.color,a.text⟩:Act)=a:=by rw [← h39]
  rw [e,h39]
  show (bif (!decide (H1 a=0)) then (200:Int) else 0)=0 ↔ decide (M2 a=0)=true
  rw [B3s,decide_eq_true_iff,decide_eq_true_iff];exact D4h hm.1 hm.2
 rw [decide_eq_false h39,cond_false,cond_false]
 by_cases h44:a.kind=44
 ·have e:K1 a=X3 a.n a.m a.color a.text:=by rw [D6d,← h44]
  rw [e,h44]
  show (bif (!decide ((X3 a.n a.m a.color a.text).2=0)) then (200:Int) else 0)=0 ↔ decide ((X3 a.n a.m a.color a.text).2=0)=true
  rw [B3s,decide_eq_true_iff]
 by_cases h45:a.kind=45
 ·have e:K1 a=U0 a.n a.m a.color a.text:=by rw [D5y,← h45]
  rw [e,h45]
  show (bif (!decide ((U0 a.n a.m a.color a.text).2=0)) then (200:Int) else 0)=0 ↔ decide ((U0 a.n a.m a.color a.text).2=0)=true
  rw [B3s,decide_eq_true_iff]
 by_cases h46:a.kind=46
 ·have e:K1 a=S7 a.n a.m a.color a.text:=by rw [D5r,← h46]
  rw [e,h46]
  show (bif (!decide ((S7 a.n a.m a.color a.text).2=0)) then (200:Int) else 0)=0 ↔ decide ((S7 a.n a.m a.color a.text).2=0)=true
  rw [B3s,decide_eq_true_iff]
 simp only [h44,h45,h46,decide_false,cond_false]
 by_cases h1:a.kind=1
 ·rw [decide_eq_true h1,cond_true,C8t]
  have en:P3 a=((decide ((0:Int)≤(B3p a.n)))&&(decide (a.m=0))):=by unfold P3;rw [decide_eq_true h1,cond_true]
  rw [en,D0v]
  have ea:decide ((⟨1,a.n,a.m,a.color,a.text⟩:Act)=A0u a.kind a.n 0)=(decide (a.m=0)&&decide (a.color=Col.zero)&&decide (a.text=[])):=by
   rw [h1,show A0u 1 a.n 0=⟨1,a.n,0,Col.zero,[]⟩ from rfl]
   rw [Bool.eq_iff_iff]
   simp only [decide_eq_true_eq,Bool.and_eq_true,Act.mk.injEq,true_and]
   exact and_assoc.symm
  rw [ea]
  simp only [Bool.or_eq_false_iff,decide_eq_false_iff_not,Bool.not_eq_false',Bool.and_eq_true,decide_eq_true_eq,and_assoc,Int.not_lt]
 ·rw [decide_eq_false h1,cond_false,C8t,C9w]
  cases hN:C2n.contains a.kind with
  | false=>rw [C8d h1 h39 h44 h45 h46 hN];simp
  | true =>
   rw [← C8y h1 hN]
   simp only [Bool.or_eq_false_iff,Bool.not_eq_false',Bool.and_eq_true,decide_eq_true_eq,Bool.not_true,true_and,and_assoc]
theorem D3y {a:Act} (h:N2 a=true) (h1:a.kind≠1) (h39:a.kind≠39) (h44:a.kind≠44) (h45:a.kind≠45) (h46:a.kind≠46):C2n.contains a.kind=true∧P3 a=true:=by
 unfold N2 W9 at h
 rw [decide_eq_false h39,decide_eq_false h44,decide_eq_false h45,decide_eq_false h46] at h
 simp only [cond_false,Bool.and_eq_true] at h
 refine ⟨?_,h.1.1⟩
 cases hN:C2n.contains a.kind with
 | true=>rfl
 | false=>rw [C8d h1 h39 h44 h45 h46 hN] at h;exact absurd h.1.1 (by decide)
theorem D8z (n:Int) (hn:0≤n∧n≤9999):L8 (-2) [n]=J9 (n.toNat+1) n:=by
 rw [C9j (-2) hn,if_neg (by omega),B8o hn.1]
theorem D2e (k n:Int) (hn:0≤n∧n≤9999):L8 k [n]=M5 n k:=by rw [C9j k hn,C1w k hn.1]
theorem D6b (k n m:Int) (hn:0≤n∧n≤9999) (hm:0≤m∧m≤9999):L8 k [n,m]=A3z n m k:=by rw [D5d k hn hm,D8c k hn.1 hm.1]
theorem D7l {a:Act} (h:a.kind=39):A1q a=A3v [a]:=by
 unfold A1q C1;rw [h];rfl
theorem C1b {a:Act} (hk:a.kind=39) (h:N2 a=true):Told a:=by
 unfold N2 at h
 rw [decide_eq_true hk,cond_true,decide_eq_true_iff] at h
 exact B5m (D2l h)
set_option maxHeartbeats 4000000 in
theorem D2u {a:Act} (h:N2 a=true):A0q a=A1q a:=by
 by_cases h1:a.kind=1
 ·obtain ⟨k,n,m,c,t⟩:=a;dsimp only at h1;subst h1;exact D1v n
 by_cases h39:a.kind=39
 ·have hT:=C1b h39 h
  rw [D7l h39,D1y (Nat.le_of_ble_eq_true rfl) (fun x hx=>by rw [List.mem_singleton.1 hx];exact hT),← C8w (l:=[a]) (Nat.le_of_ble_eq_true rfl) (fun x hx=>by rw [List.mem_singleton.1 hx];exact hT)]
  obtain ⟨k,n,m,c,t⟩:=a;dsimp only at h39;subst h39;rfl
 by_cases h44:a.kind=44
 ·obtain ⟨k,n,m,c,t⟩:=a;dsimp only at h44;subst h44
  show ([27,93]++(X3 n m c t).1)++[27,92]=(([27,93]++(K1 ⟨44,n,m,c,t⟩).1)++[27])++[92]
  rw [D6d,List.append_assoc _ [27] [92]];rfl
 by_cases h45:a.kind=45
 ·obtain ⟨k,n,m,c,t⟩:=a;dsimp only at h45;subst h45
  show ([27,93]++(U0 n m c t).1)++[27,92]=(([27,93]++(K1 ⟨45,n,m,c,t⟩).1)++[27])++[92]
  rw [D5y,List.append_assoc _ [27] [92]];rfl
 by_cases h46:a.kind=46
 ·obtain ⟨k,n,m,c,t⟩:=a;dsimp only at h46;subst h46
  show ([27,93]++(S7 n m c t).1)++[27,92]=(([27,93]++(K1 ⟨46,n,m,c,t⟩).1)++[27])++[92]
  rw [D5r,List.append_assoc _ [27] [92]];rfl
 obtain ⟨hN,hn⟩:=D3y h h1 h39 h44 h45 h46
 rw [← C8y h1 hN] at hn
 clear h h1 h39 h44 h45 h46
 obtain ⟨k,n,m,c,t⟩:=a
 simp only [C2n,List.contains_cons,List.contains_nil,Bool.or_false,Bool.or_eq_true,beq_iff_eq] at hN
 have q1:=D2e 1 n
 have q0:=D2e 0 n
 have qm:=D2e 1 m
 have qd:=D8z n
 have t1:=D6b 1 n m
 have t0:=D6b 0 n m
 rcases hN with h | h | h | h | h | h | h | h | h | h | h | h | h | h | h | h | h | h | h | h | h | h | h | h | h | h | h | h | h | h | h | h | h | h | h | h | h | h | h | h | h<;>subst h <;>
  simp only [D4,D8,Int.reduceEq,decide_true,decide_false,cond_true,cond_false,C3v,V9,Bool.and_eq_true,Bool.or_eq_true,decide_eq_true_eq] at hn
 all_goals first
  | rfl
  | (show ([27,91]++L8 1 [n])++_=[27,91]++(M5 n 1++_);rw [q1 (by omega)];exact List.append_assoc ..)
  | (show ([27,91]++L8 0 [n])++_=[27,91]++(M5 n 0++_);rw [q0 (by omega)];exact List.append_assoc ..)
  | (show ([27,91]++L8 1 [m])++_=[27,91]++(M5 m 1++_);rw [qm (by omega)];exact List.append_assoc ..)
  | (show ([27,91]++L8 1 [n,m])++_=[27,91]++(A3z n m 1++_);rw [t1 (by omega) (by omega)];exact List.append_assoc ..)
  | (show ([27,91]++L8 0 [n,m])++_=[27,91]++(A3z n m 0++_);rw [t0 (by omega) (by omega)];exact List.append_assoc ..)
  | (show ([27,91]++L8 (-2) [n])++_=[27,91]++(J9 (n.toNat+1) n++_);rw [qd (by omega)];exact List.append_assoc ..)
  | (obtain e | e:n=0∨n=1:=by omega)<;>subst e<;>rfl
  | (obtain e | e:n=2∨n=3:=by omega)<;>subst e<;>rfl
  | (show (([27,91]++[63])++L8 (-2) [n])++_=[27,91]++(([63]++J9 (n.toNat+1) n)++_);rw [qd (by omega)];simp only [List.append_assoc];rfl)
  | (obtain e | e:m=0∨m=1:=by omega)<;>subst e<;>(show (([27,91]++_)++L8 (-2) [n])++_=[27,91]++((_++J9 (n.toNat+1) n)++_);rw [qd (by omega)];simp only [List.append_assoc];rfl)
end Go.Proofs.YtanighkpfmgnbaaGreatDoor
set_option linter.unusedVariables false
set_option linter.unusedSimpArgs false
set_option linter.unnecessarySimpa false
set_option maxRecDepth 10000
namespace Go.Proofs.YtanighkpfmgnbaaGreatDoor
open Go Go.Fen
def U5:Nat→List Act→Nat
 | 0,_=>0
 | _+1,[]=>0
 | k+1,a::r=>if a.kind=39 then U5 k r+1 else 0
theorem B7j:∀ (k:Nat) (l:List Act),U5 k l≤k∧U5 k l≤l.length
 | 0,l=>⟨Nat.le_refl _,Nat.zero_le _⟩
 | k+1,[]=>⟨Nat.zero_le _,Nat.le_refl _⟩
 | k+1,a::r=>by
  have:=B7j k r
  unfold U5
  split
  ·simp only [List.length_cons];omega
  ·exact ⟨Nat.zero_le _,Nat.zero_le _⟩
theorem C3k:∀ (k:Nat) (l:List Act),∀ x ∈ l.take (U5 k l),x.kind=39
 | 0,l=>by simp [U5]
 | k+1,[]=>by simp [U5]
 | k+1,a::r=>by
  unfold U5
  split
  ·rename_i h
   intro x hx
   rw [List.take_succ_cons] at hx
   rcases List.mem_cons.1 hx with rfl | hx
   ·exact h
   ·exact C3k k r x hx
  ·simp
theorem B3g {l:List Act} {n:Nat} (h:n<l.length):l.drop n=l.getD n Act.zero::l.drop (n+1):=by
 rw [gdE h];exact List.drop_eq_getElem_cons h
theorem D4i {l:List Act} {n k:Nat} (h:n<l.length) (hk:(l.getD n Act.zero).kind=39):U5 (k+1) (l.drop n)=U5 k (l.drop (n+1))+1:=by
 rw [B3g h];exact if_pos hk
theorem D3d {l:List Act} {n k:Nat} (h:¬ (n<l.length∧0<k∧(l.getD n Act.zero).kind=39)):U5 k (l.drop n)=0:=by
 cases k with
 | zero=>rfl
 | succ k =>
  by_cases h1:n<l.length
  ·rw [B3g h1];unfold U5;rw [if_neg (fun e=>h ⟨h1,by omega,e⟩)]
  ·rw [List.drop_eq_nil_of_le (by omega)];rfl
def C5h:Nat→List Act→List UInt8
 | 0,_=>[]
 | _+1,[]=>[]
 | fu+1,a::r=>if U5 16 (a::r)=0 then A1q a++C5h fu r else C5x ((a::r).take (U5 16 (a::r)))++C5h fu ((a::r).drop (U5 16 (a::r)))
theorem B4z:∀ (fu fu':Nat) (l:List Act),l.length<fu→l.length<fu'→C5h fu l=C5h fu' l
 | 0,_,_,h,_=>by omega
 | _,0,_,_,h=>by omega
 | fu+1,fu'+1,[],_,_=>rfl
 | fu+1,fu'+1,a::r,h,h'=>by
  simp only [List.length_cons] at h h'
  unfold C5h
  split
  ·rw [B4z fu fu' r (by omega) (by omega)]
  ·rw [B4z fu fu' _ (by rw [List.length_drop,List.length_cons];omega) (by rw [List.length_drop,List.length_cons];omega)]
def enc (l:List Act):List UInt8:=C5h (l.length+1) l
theorem D4g:enc []=[]:=rfl
theorem C9e {a:Act} {r:List Act} (h:U5 16 (a::r)=0):enc (a::r)=A1q a++enc r:=by
 unfold enc
 rw [C5h,if_pos h];rfl
theorem C9g {l:List Act} (h:U5 16 l≠0):enc l=C5x (l.take (U5 16 l))++enc (l.drop (U5 16 l)):=by
 cases l with
 | nil=>exact absurd rfl h
 | cons a r =>
  unfold enc
  rw [C5h,if_neg h,B4z (a::r).length (((a::r).drop (U5 16 (a::r))).length+1) _ (by rw [List.length_drop,List.length_cons];omega) (by omega)]
def A9v (l:List Act):Prop:=∀ a ∈ l,N2 a=true
theorem A9v.drop {l:List Act} (h:A9v l) (n:Nat):A9v (l.drop n):=fun a ha=>h a (List.mem_of_mem_drop ha)
theorem A9v.take {l:List Act} (h:A9v l) (n:Nat):A9v (l.take n):=fun a ha=>h a (List.mem_of_mem_take ha)
theorem C5d {l:List Act} (h:A9v l) (k:Nat):∀ a ∈ l.take (U5 k l),Told a:=fun a ha=>C1b (C3k k l a ha) (h a (List.mem_of_mem_take ha))
theorem D2r {l:List Act} (h:A9v l):A0v (l.take (U5 16 l))=C5x (l.take (U5 16 l)) :=
 C8w (by rw [List.length_take];have:=(B7j 16 l).1;omega) (C5d h 16)
theorem eb5 (l:List Act) (ag:List UInt8→Int→List UInt8×Int) (b:List UInt8) (i:Nat):∀ (fu j:Nat),l.length - (i+j)<fu→j≤16 →
  V4 l ag fu b (i:Int) ((i+j:Nat):Int)=if j+U5 (16 - j) (l.drop (i+j))=0 then ag (b++A0q (l.getD i Act.zero)) ((i:Int)+1)
   else ag (b++A0v ((l.drop i).take (j+U5 (16 - j) (l.drop (i+j))))) ((i+(j+U5 (16 - j) (l.drop (i+j))):Nat):Int)
 | 0,j,h,_=>by omega
 | fu+1,j,h,hj=>by
  rw [V4]
  by_cases hc:i+j<l.length∧0<16 - j∧(l.getD (i+j) Act.zero).kind=39
  ·have e:(((decide (((i+j:Nat):Int)<(l.length:Int)))&&(decide (((i+j:Nat):Int)<((i:Int)+16))))&&(decide ((l.getD ((((i+j:Nat):Int)).toNat) Act.zero).kind=39)))=true:=by
    rw [Int.toNat_natCast];simp only [Bool.and_eq_true,decide_eq_true_eq];exact ⟨⟨by omega,by omega⟩,hc.2.2⟩
   rw [e,cond_true]
   have ih:=eb5 l ag b i fu (j+1) (by omega) (by omega)
   have e2:(((i+j:Nat):Int)+1)=((i+(j+1):Nat):Int):=by omega
   rw [e2,ih]
   obtain ⟨m,hm⟩:∃ m,16 - j=m+1:=⟨16 - j - 1,by omega⟩
   have e3:U5 (16 - j) (l.drop (i+j))=U5 (16 - (j+1)) (l.drop (i+(j+1)))+1:=by
    rw [hm,D4i hc.1 hc.2.2,show 16 - (j+1)=m by omega];rfl
   rw [e3,show j+1+U5 (16 - (j+1)) (l.drop (i+(j+1)))=j+(U5 (16 - (j+1)) (l.drop (i+(j+1)))+1) by omega]
  ·have e:(((decide (((i+j:Nat):Int)<(l.length:Int)))&&(decide (((i+j:Nat):Int)<((i:Int)+16))))&&(decide ((l.getD ((((i+j:Nat):Int)).toNat) Act.zero).kind=39)))=false:=by
    rw [Int.toNat_natCast]
    simp only [Bool.and_eq_false_iff,decide_eq_false_iff_not]
    by_cases h1:i+j<l.length
    ·by_cases h2:0<16 - j
     ·exact .inr (fun h3=>hc ⟨h1,h2,h3⟩)
     ·exact .inl (.inr (by omega))
    ·exact .inl (.inl (by omega))
   rw [e,cond_false,D3d hc]
   by_cases h0:j=0
   ·subst h0
    rw [decide_eq_true (by omega:((i+0:Nat):Int)=(i:Int)),cond_true,if_pos (by rfl),Int.toNat_natCast]
   ·rw [decide_eq_false (by omega:¬ ((i+j:Nat):Int)=(i:Int)),cond_false,if_neg (by omega),Int.toNat_natCast,Int.toNat_natCast,show i+j - i=j by omega]
    unfold C1
    rw [show (((i+j:Nat):Int) - 1)+1=((i+(j+0):Nat):Int) by omega];rfl
theorem eb4 (l:List Act) (hg:A9v l):∀ (fu i:Nat) (b:List UInt8),l.length - i<fu→i≤l.length→N9 l fu b (i:Int)=(b++enc (l.drop i),0)
 | 0,i,b,h,_=>by omega
 | fu+1,i,b,h,hi=>by
  rw [N9]
  by_cases hc:i<l.length
  ·rw [decide_eq_true (by omega:(i:Int)<(l.length:Int)),cond_true]
   have h5:=eb5 l (N9 l fu) b i (((l.length:Int) - (i:Int)).toNat+1) 0 (by omega) (by omega)
   rw [show ((i+0:Nat):Int)=(i:Int) by omega] at h5
   rw [h5]
   simp only [Nat.zero_add,Nat.add_zero,Nat.sub_zero]
   have hd:=B3g hc
   by_cases h0:U5 16 (l.drop i)=0
   ·rw [if_pos h0,show (i:Int)+1=((i+1:Nat):Int) by omega,eb4 l hg fu (i+1) _ (by omega) (by omega)]
    have ht:A0q (l.getD i Act.zero)=A1q (l.getD i Act.zero):=D2u (hg _ (by rw [gdE hc];exact List.getElem_mem hc))
    rw [ht,hd,C9e (by rw [← hd];exact h0),List.append_assoc]
   ·have hl:=B7j 16 (l.drop i)
    rw [List.length_drop] at hl
    rw [if_neg h0,eb4 l hg fu _ _ (by omega) (by omega),D2r (hg.drop i),C9g h0,List.drop_drop,List.append_assoc]
  ·rw [decide_eq_false (by omega:¬ (i:Int)<(l.length:Int)),cond_false,List.drop_eq_nil_of_le (by omega),D4g,List.append_nil]
theorem eb0 (L:List Act):∀ (l:List Act) (t:Nat),(∀ a ∈ l,L7 a=0)→P4 L l t=N9 L (((L.length:Int) - 0).toNat+1) [] 0
 | [],t,_=>rfl
 | a::l,t,h=>by
  rw [P4,h a (List.mem_cons_self ..)]
  exact eb0 L l (t+1) (fun x hx=>h x (List.mem_cons_of_mem _ hx))
theorem C7r {l:List Act} (hl:l.length≤131072) (hm:∀ a ∈ l,C6g a.m) (hg:A9v l):N1 l=(enc l,0):=by
 unfold N1
 rw [decide_eq_false (by omega:¬ (131072:Int)<(l.length:Int)),cond_false,eb0 l l 0 (fun a ha=>(C4i (hm a ha)).2 (hg a ha))]
 have:=eb4 l hg (((l.length:Int) - 0).toNat+1) 0 [] (by omega) (Nat.zero_le _)
 rw [List.drop_zero,List.nil_append] at this
 exact this
end Go.Proofs.YtanighkpfmgnbaaGreatDoor
set_option linter.unusedVariables false
set_option linter.unusedSimpArgs false
set_option maxRecDepth 10000
namespace Go.Proofs.YtanighkpfmgnbaaGreatDoor
open Go Go.Fen
set_option maxRecDepth 100000 in
theorem C7f:L6=true:=by decide +kernel
theorem D1w {a:Act} (h:(K1 a).2=0):a={Act.zero with kind:=44,text:=a.text}∨a={Act.zero with kind:=45,n:=a.n,color:=a.color}∨a={Act.zero with kind:=46,text:=a.text}:=by
 unfold K1 C1 at h
 simp only [Bool.cond_eq_ite] at h
 split at h
 ·rename_i e;simp only [Bool.and_eq_true,decide_eq_true_eq] at e;exact .inl e.1
 split at h
 ·rename_i e;simp only [Bool.and_eq_true,decide_eq_true_eq] at e;exact .inr (.inl e.1.1.1)
 split at h
 ·rename_i e;simp only [Bool.and_eq_true,decide_eq_true_eq] at e;exact .inr (.inr e.1)
 ·exact absurd h (by decide)
theorem D8k {a:Act} (h:D1r a):C6g a.m:=by
 have hp:∀ j<8,0≤pw8 j∧pw8 j≤1000:=by decide +kernel
 unfold C6g
 rcases h with rfl | ⟨j,hj,rfl⟩ | rfl | ⟨j,hj,h2,rfl⟩ | ⟨m,h0,h5,rfl⟩ | ⟨p,c,hp,hc,rfl⟩
 ·decide
 ·have:=hp j hj;show _≤pw8 j∧pw8 j≤_;omega
 ·decide
 ·have:=hp j hj;show _≤pw8 j∧pw8 j≤_;omega
 ·show _≤m∧m≤_;omega
 ·show _≤(0:Int)∧(0:Int)≤_;omega
theorem D4q {a:Act} (h:N2 a=true):C6g a.m:=by
 have hr:=B5g h
 by_cases h39:a.kind=39
 ·unfold N2 at h
  rw [decide_eq_true h39,cond_true,decide_eq_true_iff] at h
  exact D8k (D2l h)
 unfold N2 W9 C1 at h
 rw [decide_eq_false h39,cond_false] at h
 by_cases h4:a.kind=44∨a.kind=45∨a.kind=46
 ·have h8:(K1 a).2=0:=by
   rcases h4 with e | e | e<;>rw [e] at h<;>exact of_decide_eq_true h
  rcases D1w h8 with e | e | e<;>rw [e]<;>exact ⟨by show _≤(0:Int);omega,by show (0:Int)≤_;omega⟩
 ·simp only [show ¬ a.kind=44 by omega,show ¬ a.kind=45 by omega,show ¬ a.kind=46 by omega,decide_false,cond_false,Bool.and_eq_true] at h
  unfold C6g
  by_cases h1:a.kind=1
  ·have hn:=h.1.1
   unfold P3 at hn
   rw [decide_eq_true h1,cond_true] at hn
   simp only [Bool.and_eq_true,decide_eq_true_eq] at hn
   omega
  ·unfold C7h at hr;omega
end Go.Proofs.YtanighkpfmgnbaaGreatDoor
set_option linter.unusedVariables false
set_option linter.unusedSimpArgs false
set_option maxRecDepth 10000
namespace Go.Proofs.YtanighkpfmgnbaaGreatDoor
open Go Go.Fen
end Go.Proofs.YtanighkpfmgnbaaGreatDoor
set_option linter.unusedVariables false
set_option linter.unusedSimpArgs false
set_option maxRecDepth 10000
namespace Go.Proofs.YtanighkpfmgnbaaGreatDoor
open Go Go.Fen
theorem B9o {a:Act} {r:List Act} {k:Nat} (h:a.kind≠39):U5 k (a::r)=0:=by
 cases k with
 | zero=>rfl
 | succ k=>exact if_neg h
theorem B9t {a:Act} {r:List Act} {k:Nat} (h:a.kind=39):U5 (k+1) (a::r)=U5 k r+1:=if_pos h
def B9i (a:Act):Nat:=(pr2 [] [I4 a]).length+1
def A8i:Nat→List Act→Nat
 | _,[]=>0
 | f,a::r=>if a.kind=39 then (match f with | 0=>2+B9i a+A8i 15 r | f+1=>B9i a+A8i f r) else (A1q a).length+A8i 0 r
theorem D0f (f:Nat) (a:Act) (r:List Act):A8i f (a::r)=if a.kind=39 then (match f with | 0=>2+B9i a+A8i 15 r | f+1=>B9i a+A8i f r) else (A1q a).length+A8i 0 r:=by cases f<;>rfl
theorem C8l:∀ (l:List (List Int)),(∀ r ∈ l,A6z r)→(pr2 [59] l).length=(l.map fun r=>(pr2 [] [r]).length+1).sum∧(l≠[]→(pr2 [] l).length+1=(l.map fun r=>(pr2 [] [r]).length+1).sum)
 | [],_=>⟨rfl,fun h=>absurd rfl h⟩
 | r::l,h=>by
  obtain ⟨h1,h2⟩:=C8l l (fun x hx=>h x (List.mem_cons_of_mem _ hx))
  have hr:=h r (List.mem_cons_self ..)
  have e59:pr3 [59] r=[59]++pr3 [] r:=D3l hr.1
  have e1:pr2 [] [r]=pr3 [] r:=by simp [pr2]
  have e2:pr2 [] (r::l)=pr3 [] r++pr2 [59] l:=rfl
  have e3:pr2 [59] (r::l)=pr3 [59] r++pr2 [59] l:=rfl
  rw [List.map_cons,List.sum_cons,e1]
  refine ⟨?_,fun _=>?_⟩
  ·rw [e3,e59,List.length_append,List.length_append,h1,List.length_singleton];omega
  ·rw [e2,List.length_append,h1];omega
theorem D2d {l:List Act} (h:∀ a ∈ l,Told a) (hne:l≠[]):(C5x l).length=2+(l.map B9i).sum:=by
 have hr:=C2k h
 have h2:=(C8l (l.map I4) hr).2 (by simpa using hne)
 unfold C5x
 rw [List.length_append,List.length_append]
 rw [List.map_map] at h2
 have e:((fun r=>(pr2 [] [r]).length+1) ∘ I4)=B9i:=rfl
 rw [e] at h2
 simp only [List.length_cons,List.length_nil]
 omega
theorem C4m:∀ (k:Nat) (l:List Act),k≤15→A8i k l=((l.take (U5 k l)).map B9i).sum+A8i (k - U5 k l) (l.drop (U5 k l))
 | 0,l,_=>by simp [U5]
 | k+1,[],_=>by simp [U5,A8i]
 | k+1,a::r,h=>by
  by_cases ha:a.kind=39
  ·rw [B9t ha,List.take_succ_cons,List.drop_succ_cons,List.map_cons,List.sum_cons,Nat.add_sub_add_right]
   have ih:=C4m k r (by omega)
   conv=>lhs;unfold A8i
   rw [if_pos ha]
   simp only
   omega
  ·rw [B9o ha];simp
theorem C1l:∀ (k:Nat) (l:List Act),U5 k l<k→∀ b s,l.drop (U5 k l)=b::s→b.kind≠39
 | 0,l,h,_,_,_=>by simp [U5] at h
 | k+1,[],h,b,s,e=>by simp [U5] at e
 | k+1,a::r,h,b,s,e=>by
  by_cases ha:a.kind=39
  ·rw [B9t ha] at h e
   exact C1l k r (by omega) b s e
  ·rw [B9o ha,List.drop_zero] at e
   injection e with e1 _
   rw [← e1];exact ha
theorem C9v {l:List Act} (f g:Nat) (h:∀ b s,l=b::s→b.kind≠39):A8i f l=A8i g l:=by
 cases l with
 | nil=>rfl
 | cons b s=>unfold A8i;rw [if_neg (h b s rfl),if_neg (h b s rfl)]
theorem B9w:∀ (m:Nat) (l:List Act),l.length≤m→A9v l→(enc l).length=A8i 0 l
 | 0,l,h,_=>by
  obtain rfl:=List.length_eq_zero_iff.1 (Nat.le_zero.1 h);rfl
 | m+1,[],_,_=>rfl
 | m+1,a::r,h,hg=>by
  simp only [List.length_cons] at h
  by_cases ha:a.kind=39
  ·have hl:U5 16 (a::r)=U5 15 r+1:=B9t ha
   have hle:=B7j 15 r
   rw [C9g (by rw [hl];omega),List.length_append,D2d (C5d hg 16) (by rw [hl,List.take_succ_cons];simp),B9w m _ (by rw [List.length_drop,List.length_cons];omega) (hg.drop _),hl,List.take_succ_cons,List.drop_succ_cons,List.map_cons,List.sum_cons]
   have hr:=C4m 15 r (Nat.le_refl _)
   have e:A8i (15 - U5 15 r) (r.drop (U5 15 r))=A8i 0 (r.drop (U5 15 r)):=by
    by_cases h15:U5 15 r<15
    ·exact C9v _ _ (C1l 15 r h15)
    ·rw [show 15 - U5 15 r=0 by omega]
   conv=>rhs;unfold A8i
   rw [if_pos ha]
   simp only
   omega
  ·rw [C9e (B9o ha),List.length_append,B9w m r (by omega) (hg.drop 1)]
   conv=>rhs;unfold A8i
   rw [if_neg ha]
end Go.Proofs.YtanighkpfmgnbaaGreatDoor
set_option linter.unusedVariables false
set_option linter.unusedSimpArgs false
set_option maxRecDepth 10000
namespace Go.Proofs.YtanighkpfmgnbaaGreatDoor
open Go Go.Fen
theorem D5j:B2 A3d ([(A0 2 0 0),(A0 3 0 0),(A0 4 0 0),(A0 5 0 0),(A0 6 0 0),(A0 7 0 0),(A0 8 0 0),(A0 9 0 0),(A0 10 0 0),(A0 11 0 0),(A0 12 0 0),(A0 13 0 0),(A0 15 0 0),(A0 14 0 0),(A0 14 1 0),(A0 16 0 0),(A0 17 0 0),(A0 18 2 0),(A0 18 3 0)]:List Act)=true:=by decide +kernel
theorem D3w:B2 A3r ([(A0 20 0 1),(A0 20 1 2),(A0 20 3 3),(A0 21 0 1),(A0 21 1 4),(A0 33 0 1),(A0 33 1 5),(A0 22 1 0),(A0 23 9 0),(A0 24 1 0),(A0 25 1 0),(A0 28 1 0),(A0 29 1 0),(A0 30 1 0),(A0 31 1 0),(A0 32 1 0),(A0 34 6 0)]:List Act)=true:=by decide +kernel
theorem D4l:B2 A4o ([(A0 27 0 0),(A0 27 1 0),(A0 35 0 0),(A0 35 3 0),(A0 36 4 1),(A0 36 20 0),(A0 37 7 0),(A0 38 0 0),(A0 38 2 0),(A0 38 2 5),(A0 40 6 0),(A0 41 5 0),(A0 42 0 0),(A0 42 1 0),(A0 43 4 0),(A0 43 25 1)]:List Act)=true:=by decide +kernel
def B8p:List Act:=List.replicate 17 (A0 39 0 0)
theorem D3z:B2 ((([27,91]:List UInt8)++(P6 ([48,59]:List UInt8) 15))++([48,109,27,91,48,109]:List UInt8)) B8p=true:=by decide +kernel
theorem D4p:B2 A7g ([{Act.zero with kind:=45,n:=7,color:=(⟨2,1⟩:Col)},{Act.zero with kind:=46},(A0 1 20013 0)]:List Act)=true:=by decide +kernel
theorem D5f:(N1 ([(A0 2 0 0),(A0 20 0 0)]:List Act)).2=200:=by decide +kernel
theorem D4f:(B3k Act.zero).2=200:=by decide +kernel
theorem D4x:A4b ([]:List UInt8)=true:=by decide +kernel
theorem D4e {l:List Act} (h:131072<l.length):(N1 l).2=3:=by
 unfold N1
 rw [decide_eq_true (show (131072:Int)<(l.length:Int) by omega)];rfl
theorem D4u:N2 (A0 1 120 0)=true:=by decide +kernel
theorem D5g:(A1q (A0 1 120 0)).length=1:=by decide +kernel
theorem C5c:∀ n:Nat,A8i 0 (List.replicate n (A0 1 120 0))=n
 | 0=>rfl
 | n+1=>by
  rw [List.replicate_succ,D0f,if_neg (show ¬ (A0 1 120 0).kind=39 by decide),D5g,C5c n];omega
theorem D3x:N1 (List.replicate 5000 (A0 1 120 0))=(enc (List.replicate 5000 (A0 1 120 0)),0)∧(enc (List.replicate 5000 (A0 1 120 0))).length=5000:=by
 have hg:A9v (List.replicate 5000 (A0 1 120 0)):=fun a ha=>by rw [List.eq_of_mem_replicate ha];exact D4u
 have hm:∀ a ∈ List.replicate 5000 (A0 1 120 0),C6g a.m:=fun a ha=>D4q (hg a ha)
 refine ⟨C7r (by rw [List.length_replicate];decide) hm hg,?_⟩
 rw [B9w _ _ (Nat.le_refl _) hg,C5c]
theorem B7l {α β:Type} (x:α) (f:α→β):C1 x f=f x:=rfl
theorem D0g (i:Nat) (fu:Nat) (h5:¬ i<5000):K3 B8p (fu+1) (List.replicate 5000 (A0 1 120 0)) i=true:=by
 have hj:=D3x
 have hz:=D4e (show 131072<(List.replicate 131073 Act.zero).length by rw [List.length_replicate];decide)
 generalize List.replicate 5000 (A0 1 120 0)=m at hj ⊢
 generalize enc m=B at hj
 obtain ⟨h1,h2⟩:=hj
 unfold K3
 rw [decide_eq_false (show ¬ (i:Int)<5000 by omega),cond_false,h1]
 generalize N1 (List.replicate 131073 Act.zero)=A at hz ⊢
 rw [B7l,B7l,B7l,B7l]
 rw [D5j,D3w,D4l,D3z,D4p,D5f,D4f,D4x,hz,C7f]
 have hl:((B.length:Nat):Int)=5000:=by omega
 show (((((((((((true&&true)&&true)&&true)&&true)&&true)&&(decide ((3:Int)=3)))&&(decide ((0:Int)=0)))&&(decide ((B.length:Int)=5000)))&&(decide ((200:Int)=200)))&&(decide ((200:Int)=200)))&&true)=true
 rw [decide_eq_true hl]
 rfl
theorem C6y {R:Bool} (m:List Act) (i fu:Nat) (h5:i<5000) (h:K3 B8p fu (m.set i (A0 1 120 0)) (i+1)=R):K3 B8p (fu+1) m i=R:=by
 unfold K3
 rw [decide_eq_true (show (i:Int)<5000 by omega),cond_true]
 exact h
theorem D3g (fu:Nat):∀ (m:List Act) (i:Nat),m.length=5000→i≤5000→5000 - i<fu→(∀ j,j<i→m.getD j Act.zero=A0 1 120 0)→K3 B8p fu m i=true:=by
 induction fu with
 | zero=>intro m i _ _ h _;omega
 | succ fu ih =>
  intro m i hm hi hf hx
  by_cases h5:i<5000
  ·refine C6y m i fu h5 (ih _ (i+1) (by rw [List.length_set];exact hm) (by omega) (by omega) fun j hj=>?_)
   rw [List.getD_eq_getElem?_getD,List.getElem?_set]
   by_cases e:i=j
   ·subst e;rw [if_pos rfl,if_pos (by omega)];rfl
   ·rw [if_neg e,← List.getD_eq_getElem?_getD];exact hx j (by omega)
  ·have e5:m=List.replicate 5000 (A0 1 120 0):=by
    refine List.eq_replicate_iff.2 ⟨hm,fun b hb=>?_⟩
    obtain ⟨k,hk,rfl⟩:=List.getElem_of_mem hb
    have:=hx k (by omega)
    rw [List.getD_eq_getElem?_getD,List.getElem?_eq_getElem hk] at this
    exact this
   rw [e5]
   exact D0g i fu h5
theorem C5b:∀ (fu i:Nat),i≤17→17 - i<fu→R4 fu (List.replicate i (A0 39 0 0)) i=true
 | 0,_,_,h=>by omega
 | fu+1,i,hi,hf=>by
  rw [R4]
  by_cases h5:i<17
  ·rw [decide_eq_true (show (i:Int)<17 by omega),cond_true,← List.replicate_succ']
   exact C5b fu (i+1) (by omega) (by omega)
  ·rw [decide_eq_false (show ¬ (i:Int)<17 by omega),cond_false]
   obtain rfl:i=17:=by omega
   exact D3g _ _ 0 List.length_replicate (by omega) (by omega) (fun j hj=>by omega)
theorem C0n:A5a=true:=C5b _ 0 (by omega) (by omega)
end Go.Proofs.YtanighkpfmgnbaaGreatDoor
