import Derived.Test.YtanighkpfmgnbaaGreatDoorLN1
import Derived.Test.YtanighkpfmgnbaaGreatDoorLP3
set_option linter.unusedVariables false
set_option linter.unusedSimpArgs false
set_option linter.unnecessarySimpa false
set_option maxRecDepth 10000
namespace Go.Proofs.YtanighkpfmgnbaaGreatDoor
open Go Go.Fen
theorem B7u {α:Type} (a w:Act) (f:Unit→Option α):Option.bind (A7p a w) f=bif decide (a=w) then f () else none:=by
 unfold A7p X9
 cases decide (a=w)<;>rfl
theorem B2w {α:Type} (b:Bool) (f:Unit→Option α):Option.bind (X9 b) f=bif b then f () else none:=by
 unfold X9;cases b<;>rfl
theorem D4c {α:Type} (t:List UInt8) (x:α):Option.bind (A7i t) (fun _=>some x)=bif A8d t then some x else none:=by
 rw [← D5g];cases A7i t<;>rfl
theorem E4x (n m:Int) (c:Col) (t:List UInt8):A1a n m c t=N2 ⟨44,n,m,c,t⟩:=by
 unfold A1a V7 A6g
 rw [B2w,cond_true,B7u,D4c]
 have hB:decide ((⟨44,n,m,c,t⟩:Act)={Act.zero with kind:=45,n:=n,color:=c})=false:=decide_eq_false (fun h=>by injection h with h;exact absurd h (by decide))
 have hC:decide ((⟨44,n,m,c,t⟩:Act)={Act.zero with kind:=46,text:=t})=false:=decide_eq_false (fun h=>by injection h with h;exact absurd h (by decide))
 unfold N2
 simp only [hB,hC,Bool.false_and,cond_false]
 cases decide ((⟨44,n,m,c,t⟩:Act)={Act.zero with kind:=44,text:=t})<;>cases A8d t<;>rfl
theorem E4l (n m:Int) (c:Col) (t:List UInt8):Y5 n m c t=N2 ⟨45,n,m,c,t⟩:=by
 unfold Y5 S5 A6p
 rw [B2w,cond_true,B7u]
 have hA:decide ((⟨45,n,m,c,t⟩:Act)={Act.zero with kind:=44,text:=t})=false:=decide_eq_false (fun h=>by injection h with h;exact absurd h (by decide))
 have hC:decide ((⟨45,n,m,c,t⟩:Act)={Act.zero with kind:=46,text:=t})=false:=decide_eq_false (fun h=>by injection h with h;exact absurd h (by decide))
 unfold N2 B7
 simp only [hA,hC,Bool.false_and,cond_false]
 cases decide ((⟨45,n,m,c,t⟩:Act)={Act.zero with kind:=45,n:=n,color:=c}) with
 | false=>rfl
 | true =>
  simp only [B2w,cond_true,Bool.true_and]
  by_cases hk:c.kind=2
  ·by_cases h0:(0:Int)≤n
   ·rw [decide_eq_true hk,decide_eq_true h0,C4f h0]
    rcases E1r hk with e | ⟨e1,e2⟩
    ·rw [e]
     cases decide ((A7f c).2=0)<;>cases decide (n≤255)<;>rfl
    ·rw [decide_eq_false e1,decide_eq_false e2]
     cases decide (n≤255)<;>rfl
   ·rw [decide_eq_false h0]
    cases decide ((A0u c).2=0)<;>cases decide (c.kind=2)<;>rfl
  ·rw [decide_eq_false hk]
   cases decide ((A0u c).2=0)<;>cases decide ((0:Int)≤n)<;>cases decide (n≤255)<;>rfl
theorem E4n (n m:Int) (c:Col) (t:List UInt8):Y4 n m c t=N2 ⟨46,n,m,c,t⟩:=by
 unfold Y4 S2 A6f
 rw [B2w,cond_true,B7u]
 have hA:decide ((⟨46,n,m,c,t⟩:Act)={Act.zero with kind:=44,text:=t})=false:=decide_eq_false (fun h=>by injection h with h;exact absurd h (by decide))
 have hB:decide ((⟨46,n,m,c,t⟩:Act)={Act.zero with kind:=45,n:=n,color:=c})=false:=decide_eq_false (fun h=>by injection h with h;exact absurd h (by decide))
 unfold N2 B7
 simp only [hA,hB,Bool.false_and,cond_false]
 cases decide ((⟨46,n,m,c,t⟩:Act)={Act.zero with kind:=46,text:=t}) with
 | false=>rfl
 | true =>
  simp only [B2w,cond_true,Bool.true_and]
  by_cases h:(t.length:Int)≤378
  ·have h2:(X2 t).2=0:=by rw [C8f (by omega)]
   rw [decide_eq_true h,decide_eq_true h2,E7q (by omega)]
   rfl
  ·rw [decide_eq_false h];rfl
def D4i (n:Int):Prop:=-9223372036854775808≤n∧n≤9223372036854775807
theorem D6j {c:Bool}:(bif c then (200:Int) else 0)=0 ↔ c=false:=by cases c<;>decide
theorem B9b {c:Bool}:(bif !c then (200:Int) else 0)=0 ↔ c=true:=by cases c<;>decide
def C6f:List Int:=[17,18,19,20,26,27,35,38,40,41,2,3,4,5,6,8,9,10,11,12,13,15,16,7,14,42,21,33,22,23,24,25,28,29,30,31,32,34,36,37,43]
theorem D7w (k:Int):H3 k C1=C6f.contains k:=by rw [B2u];rfl
theorem B4i (lo hi n:Int):A6 ({Spn.zero with lo:=lo,hi:=hi}) n=(decide (lo≤n)&&decide (n≤hi)):=rfl
theorem E3y (n lo hi:Int):W5 n lo hi=(decide (lo≤n)&&decide (n≤hi)):=by unfold W5;rfl
theorem D7x (n:Int):(decide ((0:Int)≤n)&&decide (n≤0))=decide (n=0):=by
 by_cases h:n=0
 ·subst h;rfl
 ·rw [decide_eq_false h,Bool.and_eq_false_iff,decide_eq_false_iff_not,decide_eq_false_iff_not];omega
theorem C9p {a:Act} (hk:a.kind≠1) (h:C6f.contains a.kind=true):(D9 a.kind a.n&&F1 a.kind a.m)=S0 a:=by
 obtain ⟨k,n,m,c,t⟩:=a
 simp only [C6f,List.contains_cons,List.contains_nil,Bool.or_false,Bool.or_eq_true,beq_iff_eq] at h
 unfold S0 I3 A0k A2e L9 A0l A4f
 rcases h with h | h | h | h | h | h | h | h | h | h | h | h | h | h | h | h | h | h | h | h | h | h | h | h | h | h | h | h | h | h | h | h | h | h | h | h | h | h | h | h | h<;>subst h <;>
  simp only [D9,F1,Int.reduceEq,decide_true,decide_false,cond_true,cond_false,B4i,E3y,D7x,A0j]
theorem D6b {a:Act} (h1:a.kind≠1) (h39:a.kind≠39) (h44:a.kind≠44) (h45:a.kind≠45) (h46:a.kind≠46) (h:C6f.contains a.kind=false):S0 a=false:=by
 simp only [C6f,List.contains_cons,List.contains_nil,Bool.or_false,Bool.or_eq_false_iff,beq_eq_false_iff_ne,ne_eq] at h
 unfold S0 I3 A0k A2e L9 A0l
 simp only [h,h1,decide_false,cond_false]
theorem D2r {a:Act} (hm:D4i a.m):P5 a=0 ↔ K3 a=true:=by
 unfold P5 K3 U6 B7
 by_cases h39:a.kind=39
 ·have e:(⟨39,a.n,a.m,a.color,a.text⟩:Act)=a:=by rw [← h39]
  rw [e,h39]
  show (bif (!decide (I2 a=0)) then (200:Int) else 0)=0 ↔ decide (P8 a=0)=true
  rw [B9b,decide_eq_true_iff,decide_eq_true_iff];exact E3i hm.1 hm.2
 rw [decide_eq_false h39,cond_false,cond_false]
 by_cases h44:a.kind=44
 ·have e:N2 a=A1a a.n a.m a.color a.text:=by rw [E4x,← h44]
  rw [e,h44]
  show (bif (!decide ((A1a a.n a.m a.color a.text).2=0)) then (200:Int) else 0)=0 ↔ decide ((A1a a.n a.m a.color a.text).2=0)=true
  rw [B9b,decide_eq_true_iff]
 by_cases h45:a.kind=45
 ·have e:N2 a=Y5 a.n a.m a.color a.text:=by rw [E4l,← h45]
  rw [e,h45]
  show (bif (!decide ((Y5 a.n a.m a.color a.text).2=0)) then (200:Int) else 0)=0 ↔ decide ((Y5 a.n a.m a.color a.text).2=0)=true
  rw [B9b,decide_eq_true_iff]
 by_cases h46:a.kind=46
 ·have e:N2 a=Y4 a.n a.m a.color a.text:=by rw [E4n,← h46]
  rw [e,h46]
  show (bif (!decide ((Y4 a.n a.m a.color a.text).2=0)) then (200:Int) else 0)=0 ↔ decide ((Y4 a.n a.m a.color a.text).2=0)=true
  rw [B9b,decide_eq_true_iff]
 simp only [h44,h45,h46,decide_false,cond_false]
 by_cases h1:a.kind=1
 ·rw [decide_eq_true h1,cond_true,D6j]
  have en:S0 a=((decide ((0:Int)≤(B8y a.n)))&&(decide (a.m=0))):=by unfold S0;rw [decide_eq_true h1,cond_true]
  rw [en,D0t]
  have ea:decide ((⟨1,a.n,a.m,a.color,a.text⟩:Act)=A3i a.kind a.n 0)=(decide (a.m=0)&&decide (a.color=Col.zero)&&decide (a.text=[])):=by
   rw [h1,show A3i 1 a.n 0=⟨1,a.n,0,Col.zero,[]⟩ from rfl]
   rw [Bool.eq_iff_iff]
   simp only [decide_eq_true_eq,Bool.and_eq_true,Act.mk.injEq,true_and]
   exact and_assoc.symm
  rw [ea]
  simp only [Bool.or_eq_false_iff,decide_eq_false_iff_not,Bool.not_eq_false',Bool.and_eq_true,decide_eq_true_eq,and_assoc,Int.not_lt]
 ·rw [decide_eq_false h1,cond_false,D6j,D7w]
  cases hN:C6f.contains a.kind with
  | false=>rw [D6b h1 h39 h44 h45 h46 hN];simp
  | true =>
   rw [← C9p h1 hN]
   simp only [Bool.or_eq_false_iff,Bool.not_eq_false',Bool.and_eq_true,decide_eq_true_eq,Bool.not_true,true_and,and_assoc]
theorem E4i {a:Act} (h:K3 a=true) (h1:a.kind≠1) (h39:a.kind≠39) (h44:a.kind≠44) (h45:a.kind≠45) (h46:a.kind≠46):C6f.contains a.kind=true∧S0 a=true:=by
 unfold K3 U6 at h
 rw [decide_eq_false h39,decide_eq_false h44,decide_eq_false h45,decide_eq_false h46] at h
 simp only [cond_false,Bool.and_eq_true] at h
 refine ⟨?_,h.1.1⟩
 cases hN:C6f.contains a.kind with
 | true=>rfl
 | false=>rw [D6b h1 h39 h44 h45 h46 hN] at h;exact absurd h.1.1 (by decide)
theorem E8g (n:Int) (hn:0≤n∧n≤9999):P6 (-2) [n]=N1 (n.toNat+1) n:=by
 rw [D5r (-2) hn,if_neg (by omega),C4f hn.1]
theorem D9n (k n:Int) (hn:0≤n∧n≤9999):P6 k [n]=Q0 n k:=by rw [D5r k hn,C9g k hn.1]
theorem E4r (k n m:Int) (hn:0≤n∧n≤9999) (hm:0≤m∧m≤9999):P6 k [n,m]=A7b n m k:=by rw [E2x k hn hm,E5v k hn.1 hm.1]
theorem E6i {a:Act} (h:a.kind=39):A4r a=A7m [a]:=by
 unfold A4r B7;rw [h];rfl
theorem C7f {a:Act} (hk:a.kind=39) (h:K3 a=true):Told a:=by
 unfold K3 at h
 rw [decide_eq_true hk,cond_true,decide_eq_true_iff] at h
 exact B6f (E0w h)
set_option maxHeartbeats 4000000 in
theorem D9s {a:Act} (h:K3 a=true):A2y a=A4r a:=by
 by_cases h1:a.kind=1
 ·obtain ⟨k,n,m,c,t⟩:=a;dsimp only at h1;subst h1;exact D9i n
 by_cases h39:a.kind=39
 ·have hT:=C7f h39 h
  rw [E6i h39,E0j (Nat.le_of_ble_eq_true rfl) (fun x hx=>by rw [List.mem_singleton.1 hx];exact hT),← D5m (l:=[a]) (Nat.le_of_ble_eq_true rfl) (fun x hx=>by rw [List.mem_singleton.1 hx];exact hT)]
  obtain ⟨k,n,m,c,t⟩:=a;dsimp only at h39;subst h39;rfl
 by_cases h44:a.kind=44
 ·obtain ⟨k,n,m,c,t⟩:=a;dsimp only at h44;subst h44
  show ([27,93]++(A1a n m c t).1)++[27,92]=(([27,93]++(N2 ⟨44,n,m,c,t⟩).1)++[27])++[92]
  rw [E4x,List.append_assoc _ [27] [92]];rfl
 by_cases h45:a.kind=45
 ·obtain ⟨k,n,m,c,t⟩:=a;dsimp only at h45;subst h45
  show ([27,93]++(Y5 n m c t).1)++[27,92]=(([27,93]++(N2 ⟨45,n,m,c,t⟩).1)++[27])++[92]
  rw [E4l,List.append_assoc _ [27] [92]];rfl
 by_cases h46:a.kind=46
 ·obtain ⟨k,n,m,c,t⟩:=a;dsimp only at h46;subst h46
  show ([27,93]++(Y4 n m c t).1)++[27,92]=(([27,93]++(N2 ⟨46,n,m,c,t⟩).1)++[27])++[92]
  rw [E4n,List.append_assoc _ [27] [92]];rfl
 obtain ⟨hN,hn⟩:=E4i h h1 h39 h44 h45 h46
 rw [← C9p h1 hN] at hn
 clear h h1 h39 h44 h45 h46
 obtain ⟨k,n,m,c,t⟩:=a
 simp only [C6f,List.contains_cons,List.contains_nil,Bool.or_false,Bool.or_eq_true,beq_iff_eq] at hN
 have q1:=D9n 1 n
 have q0:=D9n 0 n
 have qm:=D9n 1 m
 have qd:=E8g n
 have t1:=E4r 1 n m
 have t0:=E4r 0 n m
 rcases hN with h | h | h | h | h | h | h | h | h | h | h | h | h | h | h | h | h | h | h | h | h | h | h | h | h | h | h | h | h | h | h | h | h | h | h | h | h | h | h | h | h<;>subst h <;>
  simp only [D9,F1,Int.reduceEq,decide_true,decide_false,cond_true,cond_false,B4i,A0j,Bool.and_eq_true,Bool.or_eq_true,decide_eq_true_eq] at hn
 all_goals first
  | rfl
  | (show ([27,91]++P6 1 [n])++_=[27,91]++(Q0 n 1++_);rw [q1 (by omega)];exact List.append_assoc ..)
  | (show ([27,91]++P6 0 [n])++_=[27,91]++(Q0 n 0++_);rw [q0 (by omega)];exact List.append_assoc ..)
  | (show ([27,91]++P6 1 [m])++_=[27,91]++(Q0 m 1++_);rw [qm (by omega)];exact List.append_assoc ..)
  | (show ([27,91]++P6 1 [n,m])++_=[27,91]++(A7b n m 1++_);rw [t1 (by omega) (by omega)];exact List.append_assoc ..)
  | (show ([27,91]++P6 0 [n,m])++_=[27,91]++(A7b n m 0++_);rw [t0 (by omega) (by omega)];exact List.append_assoc ..)
  | (show ([27,91]++P6 (-2) [n])++_=[27,91]++(N1 (n.toNat+1) n++_);rw [qd (by omega)];exact List.append_assoc ..)
  | (obtain e | e:n=0∨n=1:=by omega)<;>subst e<;>rfl
  | (obtain e | e:n=2∨n=3:=by omega)<;>subst e<;>rfl
  | (show (([27,91]++[63])++P6 (-2) [n])++_=[27,91]++(([63]++N1 (n.toNat+1) n)++_);rw [qd (by omega)];simp only [List.append_assoc];rfl)
  | (obtain e | e:m=0∨m=1:=by omega)<;>subst e<;>(show (([27,91]++_)++P6 (-2) [n])++_=[27,91]++((_++N1 (n.toNat+1) n)++_);rw [qd (by omega)];simp only [List.append_assoc];rfl)
end Go.Proofs.YtanighkpfmgnbaaGreatDoor
set_option linter.unusedVariables false
set_option linter.unusedSimpArgs false
set_option linter.unnecessarySimpa false
set_option maxRecDepth 10000
namespace Go.Proofs.YtanighkpfmgnbaaGreatDoor
open Go Go.Fen
def Z1:Nat→List Act→Nat
 | 0,_=>0
 | _+1,[]=>0
 | k+1,a::r=>if a.kind=39 then Z1 k r+1 else 0
theorem C3f:∀ (k:Nat) (l:List Act),Z1 k l≤k∧Z1 k l≤l.length
 | 0,l=>⟨Nat.le_refl _,Nat.zero_le _⟩
 | k+1,[]=>⟨Nat.zero_le _,Nat.le_refl _⟩
 | k+1,a::r=>by
  have:=C3f k r
  unfold Z1
  split
  ·simp only [List.length_cons];omega
  ·exact ⟨Nat.zero_le _,Nat.zero_le _⟩
theorem D1h:∀ (k:Nat) (l:List Act),∀ x ∈ l.take (Z1 k l),x.kind=39
 | 0,l=>by simp [Z1]
 | k+1,[]=>by simp [Z1]
 | k+1,a::r=>by
  unfold Z1
  split
  ·rename_i h
   intro x hx
   rw [List.take_succ_cons] at hx
   rcases List.mem_cons.1 hx with rfl | hx
   ·exact h
   ·exact D1h k r x hx
  ·simp
theorem B7y {l:List Act} {n:Nat} (h:n<l.length):l.drop n=l.getD n Act.zero::l.drop (n+1):=by
 rw [gdE h];exact List.drop_eq_getElem_cons h
theorem E4f {l:List Act} {n k:Nat} (h:n<l.length) (hk:(l.getD n Act.zero).kind=39):Z1 (k+1) (l.drop n)=Z1 k (l.drop (n+1))+1:=by
 rw [B7y h];exact if_pos hk
theorem E1v {l:List Act} {n k:Nat} (h:¬ (n<l.length∧0<k∧(l.getD n Act.zero).kind=39)):Z1 k (l.drop n)=0:=by
 cases k with
 | zero=>rfl
 | succ k =>
  by_cases h1:n<l.length
  ·rw [B7y h1];unfold Z1;rw [if_neg (fun e=>h ⟨h1,by omega,e⟩)]
  ·rw [List.drop_eq_nil_of_le (by omega)];rfl
def D1q:Nat→List Act→List UInt8
 | 0,_=>[]
 | _+1,[]=>[]
 | fu+1,a::r=>if Z1 16 (a::r)=0 then A4r a++D1q fu r else D4b ((a::r).take (Z1 16 (a::r)))++D1q fu ((a::r).drop (Z1 16 (a::r)))
theorem C1a:∀ (fu fu':Nat) (l:List Act),l.length<fu→l.length<fu'→D1q fu l=D1q fu' l
 | 0,_,_,h,_=>by omega
 | _,0,_,_,h=>by omega
 | fu+1,fu'+1,[],_,_=>rfl
 | fu+1,fu'+1,a::r,h,h'=>by
  simp only [List.length_cons] at h h'
  unfold D1q
  split
  ·rw [C1a fu fu' r (by omega) (by omega)]
  ·rw [C1a fu fu' _ (by rw [List.length_drop,List.length_cons];omega) (by rw [List.length_drop,List.length_cons];omega)]
def enc (l:List Act):List UInt8:=D1q (l.length+1) l
theorem E3d:enc []=[]:=rfl
theorem C9i {a:Act} {r:List Act} (h:Z1 16 (a::r)=0):enc (a::r)=A4r a++enc r:=by
 unfold enc
 rw [D1q,if_pos h];rfl
theorem D6y {l:List Act} (h:Z1 16 l≠0):enc l=D4b (l.take (Z1 16 l))++enc (l.drop (Z1 16 l)):=by
 cases l with
 | nil=>exact absurd rfl h
 | cons a r =>
  unfold enc
  rw [D1q,if_neg h,C1a (a::r).length (((a::r).drop (Z1 16 (a::r))).length+1) _ (by rw [List.length_drop,List.length_cons];omega) (by omega)]
def R0 (l:List Act):Prop:=∀ a ∈ l,K3 a=true
theorem R0.drop {l:List Act} (h:R0 l) (n:Nat):R0 (l.drop n):=fun a ha=>h a (List.mem_of_mem_drop ha)
theorem R0.take {l:List Act} (h:R0 l) (n:Nat):R0 (l.take n):=fun a ha=>h a (List.mem_of_mem_take ha)
theorem D1u {l:List Act} (h:R0 l) (k:Nat):∀ a ∈ l.take (Z1 k l),Told a:=fun a ha=>C7f (D1h k l a ha) (h a (List.mem_of_mem_take ha))
theorem E1x {l:List Act} (h:R0 l):A3g (l.take (Z1 16 l))=D4b (l.take (Z1 16 l)) :=
 D5m (by rw [List.length_take];have:=(C3f 16 l).1;omega) (D1u h 16)
theorem eb5 (l:List Act) (ag:List UInt8→Int→List UInt8×Int) (b:List UInt8) (i:Nat):∀ (fu j:Nat),l.length - (i+j)<fu→j≤16 →
  A0c l ag fu b (i:Int) ((i+j:Nat):Int)=if j+Z1 (16 - j) (l.drop (i+j))=0 then ag (b++A2y (l.getD i Act.zero)) ((i:Int)+1)
   else ag (b++A3g ((l.drop i).take (j+Z1 (16 - j) (l.drop (i+j))))) ((i+(j+Z1 (16 - j) (l.drop (i+j))):Nat):Int)
 | 0,j,h,_=>by omega
 | fu+1,j,h,hj=>by
  rw [A0c]
  by_cases hc:i+j<l.length∧0<16 - j∧(l.getD (i+j) Act.zero).kind=39
  ·have e:(((decide (((i+j:Nat):Int)<(l.length:Int)))&&(decide (((i+j:Nat):Int)<((i:Int)+16))))&&(decide ((l.getD ((((i+j:Nat):Int)).toNat) Act.zero).kind=39)))=true:=by
    rw [Int.toNat_natCast];simp only [Bool.and_eq_true,decide_eq_true_eq];exact ⟨⟨by omega,by omega⟩,hc.2.2⟩
   rw [e,cond_true]
   have ih:=eb5 l ag b i fu (j+1) (by omega) (by omega)
   have e2:(((i+j:Nat):Int)+1)=((i+(j+1):Nat):Int):=by omega
   rw [e2,ih]
   obtain ⟨m,hm⟩:∃ m,16 - j=m+1:=⟨16 - j - 1,by omega⟩
   have e3:Z1 (16 - j) (l.drop (i+j))=Z1 (16 - (j+1)) (l.drop (i+(j+1)))+1:=by
    rw [hm,E4f hc.1 hc.2.2,show 16 - (j+1)=m by omega];rfl
   rw [e3,show j+1+Z1 (16 - (j+1)) (l.drop (i+(j+1)))=j+(Z1 (16 - (j+1)) (l.drop (i+(j+1)))+1) by omega]
  ·have e:(((decide (((i+j:Nat):Int)<(l.length:Int)))&&(decide (((i+j:Nat):Int)<((i:Int)+16))))&&(decide ((l.getD ((((i+j:Nat):Int)).toNat) Act.zero).kind=39)))=false:=by
    rw [Int.toNat_natCast]
    simp only [Bool.and_eq_false_iff,decide_eq_false_iff_not]
    by_cases h1:i+j<l.length
    ·by_cases h2:0<16 - j
     ·exact .inr (fun h3=>hc ⟨h1,h2,h3⟩)
     ·exact .inl (.inr (by omega))
    ·exact .inl (.inl (by omega))
   rw [e,cond_false,E1v hc]
   by_cases h0:j=0
   ·subst h0
    rw [decide_eq_true (by omega:((i+0:Nat):Int)=(i:Int)),cond_true,if_pos (by rfl),Int.toNat_natCast]
   ·rw [decide_eq_false (by omega:¬ ((i+j:Nat):Int)=(i:Int)),cond_false,if_neg (by omega),Int.toNat_natCast,Int.toNat_natCast,show i+j - i=j by omega]
    unfold B7
    rw [show (((i+j:Nat):Int) - 1)+1=((i+(j+0):Nat):Int) by omega];rfl
theorem eb4 (l:List Act) (hg:R0 l):∀ (fu i:Nat) (b:List UInt8),l.length - i<fu→i≤l.length→R7 l fu b (i:Int)=(b++enc (l.drop i),0)
 | 0,i,b,h,_=>by omega
 | fu+1,i,b,h,hi=>by
  rw [R7]
  by_cases hc:i<l.length
  ·rw [decide_eq_true (by omega:(i:Int)<(l.length:Int)),cond_true]
   have h5:=eb5 l (R7 l fu) b i (((l.length:Int) - (i:Int)).toNat+1) 0 (by omega) (by omega)
   rw [show ((i+0:Nat):Int)=(i:Int) by omega] at h5
   rw [h5]
   simp only [Nat.zero_add,Nat.add_zero,Nat.sub_zero]
   have hd:=B7y hc
   by_cases h0:Z1 16 (l.drop i)=0
   ·rw [if_pos h0,show (i:Int)+1=((i+1:Nat):Int) by omega,eb4 l hg fu (i+1) _ (by omega) (by omega)]
    have ht:A2y (l.getD i Act.zero)=A4r (l.getD i Act.zero):=D9s (hg _ (by rw [gdE hc];exact List.getElem_mem hc))
    rw [ht,hd,C9i (by rw [← hd];exact h0),List.append_assoc]
   ·have hl:=C3f 16 (l.drop i)
    rw [List.length_drop] at hl
    rw [if_neg h0,eb4 l hg fu _ _ (by omega) (by omega),E1x (hg.drop i),D6y h0,List.drop_drop,List.append_assoc]
  ·rw [decide_eq_false (by omega:¬ (i:Int)<(l.length:Int)),cond_false,List.drop_eq_nil_of_le (by omega),E3d,List.append_nil]
theorem eb0 (L:List Act):∀ (l:List Act) (t:Nat),(∀ a ∈ l,P5 a=0)→U5 L l t=R7 L (((L.length:Int) - 0).toNat+1) [] 0
 | [],t,_=>rfl
 | a::l,t,h=>by
  rw [U5,h a (List.mem_cons_self ..)]
  exact eb0 L l (t+1) (fun x hx=>h x (List.mem_cons_of_mem _ hx))
theorem B7e {l:List Act} (hl:l.length≤131072) (hm:∀ a ∈ l,D4i a.m) (hg:R0 l):L5 l=(enc l,0):=by
 unfold L5
 rw [decide_eq_false (by omega:¬ (131072:Int)<(l.length:Int)),cond_false,eb0 l l 0 (fun a ha=>(D2r (hm a ha)).2 (hg a ha))]
 have:=eb4 l hg (((l.length:Int) - 0).toNat+1) 0 [] (by omega) (Nat.zero_le _)
 rw [List.drop_zero,List.nil_append] at this
 exact this
end Go.Proofs.YtanighkpfmgnbaaGreatDoor
set_option linter.unusedVariables false
set_option linter.unusedSimpArgs false
set_option maxRecDepth 10000
namespace Go.Proofs.YtanighkpfmgnbaaGreatDoor
open Go Go.Fen
theorem B8w {a:Act} {r:List Act} {k:Nat} (h:a.kind≠39):Z1 k (a::r)=0:=by
 cases k with
 | zero=>rfl
 | succ k=>exact if_neg h
theorem C5g {a:Act} {r:List Act} {k:Nat} (h:a.kind=39):Z1 (k+1) (a::r)=Z1 k r+1:=if_pos h
def C4z (a:Act):Nat:=(pr2 [] [K8 a]).length+1
def cost:Nat→List Act→Nat
 | _,[]=>0
 | f,a::r=>if a.kind=39 then (match f with | 0=>2+C4z a+cost 15 r | f+1=>C4z a+cost f r) else (A4r a).length+cost 0 r
theorem C7z:∀ (l:List Act),(∀ f g,g≤f→f≤15→cost f l≤cost g l)∧(∀ f g,f≤15→g≤15→cost f l≤2+cost g l)
 | []=>⟨fun f g _ _=>Nat.le_refl _,fun f g _ _=>Nat.zero_le _⟩
 | a::r=>by
  obtain ⟨h1,h2⟩:=C7z r
  by_cases ha:a.kind=39
  ·refine ⟨fun f g hg hf=>?_,fun f g hf hg=>?_⟩
   ·unfold cost
    rw [if_pos ha,if_pos ha]
    cases f with
    | zero =>
     obtain rfl:g=0:=by omega
     exact Nat.le_refl _
    | succ f =>
     cases g with
     | zero=>have:=h2 f 15 (by omega) (by omega);simp only;omega
     | succ g=>have:=h1 f g (by omega) (by omega);simp only;omega
   ·unfold cost
    rw [if_pos ha,if_pos ha]
    cases f with
    | zero =>
     cases g with
     | zero=>simp only;omega
     | succ g=>have:=h1 15 g (by omega) (by omega);simp only;omega
    | succ f =>
     cases g with
     | zero=>have:=h2 f 15 (by omega) (by omega);simp only;omega
     | succ g=>have:=h2 f g (by omega) (by omega);simp only;omega
  ·refine ⟨fun f g _ _=>?_,fun f g _ _=>?_⟩<;>· unfold cost;rw [if_neg ha,if_neg ha];omega
theorem C7s (f:Nat) (a:Act) (r:List Act):cost f (a::r)=if a.kind=39 then (match f with | 0=>2+C4z a+cost 15 r | f+1=>C4z a+cost f r) else (A4r a).length+cost 0 r:=by cases f<;>rfl
theorem B1q:∀ (x y:List Act) (f:Nat),f≤15→cost f (x++y)≤cost f x+cost 0 y
 | [],y,f,hf=>by
  have:=(C7z y).1 f 0 (Nat.zero_le _) hf
  show cost f y≤0+cost 0 y;omega
 | a::x,y,f,hf=>by
  rw [List.cons_append,C7s,C7s]
  by_cases ha:a.kind=39
  ·rw [if_pos ha,if_pos ha]
   cases f with
   | zero=>have:=B1q x y 15 (Nat.le_refl _);simp only;omega
   | succ f=>have:=B1q x y f (by omega);simp only;omega
  ·rw [if_neg ha,if_neg ha]
   have:=B1q x y 0 (by omega);omega
theorem D6a:∀ (l:List (List Int)),(∀ r ∈ l,A9y r)→(pr2 [59] l).length=(l.map fun r=>(pr2 [] [r]).length+1).sum∧(l≠[]→(pr2 [] l).length+1=(l.map fun r=>(pr2 [] [r]).length+1).sum)
 | [],_=>⟨rfl,fun h=>absurd rfl h⟩
 | r::l,h=>by
  obtain ⟨h1,h2⟩:=D6a l (fun x hx=>h x (List.mem_cons_of_mem _ hx))
  have hr:=h r (List.mem_cons_self ..)
  have e59:pr3 [59] r=[59]++pr3 [] r:=D9p hr.1
  have e1:pr2 [] [r]=pr3 [] r:=by simp [pr2]
  have e2:pr2 [] (r::l)=pr3 [] r++pr2 [59] l:=rfl
  have e3:pr2 [59] (r::l)=pr3 [59] r++pr2 [59] l:=rfl
  rw [List.map_cons,List.sum_cons,e1]
  refine ⟨?_,fun _=>?_⟩
  ·rw [e3,e59,List.length_append,List.length_append,h1,List.length_singleton];omega
  ·rw [e2,List.length_append,h1];omega
theorem D9c {l:List Act} (h:∀ a ∈ l,Told a) (hne:l≠[]):(D4b l).length=2+(l.map C4z).sum:=by
 have hr:=C9x h
 have h2:=(D6a (l.map K8) hr).2 (by simpa using hne)
 unfold D4b
 rw [List.length_append,List.length_append]
 rw [List.map_map] at h2
 have e:((fun r=>(pr2 [] [r]).length+1) ∘ K8)=C4z:=rfl
 rw [e] at h2
 simp only [List.length_cons,List.length_nil]
 omega
theorem D1i:∀ (k:Nat) (l:List Act),k≤15→cost k l=((l.take (Z1 k l)).map C4z).sum+cost (k - Z1 k l) (l.drop (Z1 k l))
 | 0,l,_=>by simp [Z1]
 | k+1,[],_=>by simp [Z1,cost]
 | k+1,a::r,h=>by
  by_cases ha:a.kind=39
  ·rw [C5g ha,List.take_succ_cons,List.drop_succ_cons,List.map_cons,List.sum_cons,Nat.add_sub_add_right]
   have ih:=D1i k r (by omega)
   conv=>lhs;unfold cost
   rw [if_pos ha]
   simp only
   omega
  ·rw [B8w ha];simp
theorem C7p:∀ (k:Nat) (l:List Act),Z1 k l<k→∀ b s,l.drop (Z1 k l)=b::s→b.kind≠39
 | 0,l,h,_,_,_=>by simp [Z1] at h
 | k+1,[],h,b,s,e=>by simp [Z1] at e
 | k+1,a::r,h,b,s,e=>by
  by_cases ha:a.kind=39
  ·rw [C5g ha] at h e
   exact C7p k r (by omega) b s e
  ·rw [B8w ha,List.drop_zero] at e
   injection e with e1 _
   rw [← e1];exact ha
theorem D8g {l:List Act} (f g:Nat) (h:∀ b s,l=b::s→b.kind≠39):cost f l=cost g l:=by
 cases l with
 | nil=>rfl
 | cons b s=>unfold cost;rw [if_neg (h b s rfl),if_neg (h b s rfl)]
theorem B4j:∀ (m:Nat) (l:List Act),l.length≤m→R0 l→(enc l).length=cost 0 l
 | 0,l,h,_=>by
  obtain rfl:=List.length_eq_zero_iff.1 (Nat.le_zero.1 h);rfl
 | m+1,[],_,_=>rfl
 | m+1,a::r,h,hg=>by
  simp only [List.length_cons] at h
  by_cases ha:a.kind=39
  ·have hl:Z1 16 (a::r)=Z1 15 r+1:=C5g ha
   have hle:=C3f 15 r
   rw [D6y (by rw [hl];omega),List.length_append,D9c (D1u hg 16) (by rw [hl,List.take_succ_cons];simp),B4j m _ (by rw [List.length_drop,List.length_cons];omega) (hg.drop _),hl,List.take_succ_cons,List.drop_succ_cons,List.map_cons,List.sum_cons]
   have hr:=D1i 15 r (Nat.le_refl _)
   have e:cost (15 - Z1 15 r) (r.drop (Z1 15 r))=cost 0 (r.drop (Z1 15 r)):=by
    by_cases h15:Z1 15 r<15
    ·exact D8g _ _ (C7p 15 r h15)
    ·rw [show 15 - Z1 15 r=0 by omega]
   conv=>rhs;unfold cost
   rw [if_pos ha]
   simp only
   omega
  ·rw [C9i (B8w ha),List.length_append,B4j m r (by omega) (hg.drop 1)]
   conv=>rhs;unfold cost
   rw [if_neg ha]
theorem E6h {l:List Act} (hg:R0 l) (k:Nat):(enc l).length≤(enc (l.take k)).length+(enc (l.drop k)).length:=by
 rw [B4j _ l (Nat.le_refl _) hg,B4j _ _ (Nat.le_refl _) (hg.take k),B4j _ _ (Nat.le_refl _) (hg.drop k)]
 have:=B1q (l.take k) (l.drop k) 0 (by omega)
 rwa [List.take_append_drop] at this
end Go.Proofs.YtanighkpfmgnbaaGreatDoor
set_option linter.unusedVariables false
set_option linter.unusedSimpArgs false
set_option maxRecDepth 10000
namespace Go.Proofs.YtanighkpfmgnbaaGreatDoor
open Go Go.Fen
theorem C5w:∀ (l:List Cel) (t:Nat) (last:Cel),X3 l t last=0→(∀ c ∈ l,H5 c=0)∧(∀ i<l.length,((last::l).getD i Cel.zero).wide=1 ↔ (l.getD i Cel.zero).wide=2)∧((last::l).getD l.length Cel.zero).wide≠1
 | [],t,last,h=>by
  rw [X3] at h
  refine ⟨fun c hc=>(by cases hc),fun i hi=>(by cases hi),fun e=>?_⟩
  have e':last.wide=1:=e
  rw [decide_eq_true e'] at h;exact absurd (show (220:Int)=0 from h) (by decide)
 | x::l,t,last,h=>by
  rw [X3] at h
  cases hb:(((!decide ((H5 x)=0))||(!((decide (last.wide=1)) == (decide (x.wide=2)))))||((decide (x.wide=2))&&(!(decide (x.sty=last.sty))))) with
  | true=>rw [hb] at h;exact absurd (show (220:Int)=0 from h) (by decide)
  | false =>
   rw [hb] at h
   obtain ⟨h1,h2,h3⟩:=C5w l (t+1) x h
   simp only [Bool.or_eq_false_iff,Bool.not_eq_false',decide_eq_true_eq,beq_iff_eq] at hb
   have h0:last.wide=1 ↔ x.wide=2:=decide_eq_decide.1 hb.1.2
   refine ⟨fun c hc=>?_,fun i hi=>?_,h3⟩
   ·rcases List.mem_cons.1 hc with rfl | hc
    ·exact hb.1.1
    ·exact h1 c hc
   ·cases i with
    | zero=>exact h0
    | succ i=>exact h2 i (by simp only [List.length_cons] at hi;omega)
structure RowV (x:List Cel):Prop where
 len:2≤x.length∧x.length≤80
 ok:∀ c ∈ x,H5 c=0
 wide:∀ c ∈ x,0≤c.wide∧c.wide≤2
 next:∀ i<x.length,(x.getD i Cel.zero).wide=1→i+1<x.length∧(x.getD (i+1) Cel.zero).wide=2
 prev:∀ i<x.length,(x.getD i Cel.zero).wide=2→0<i∧(x.getD (i - 1) Cel.zero).wide=1
theorem F0n {x:List Cel} {w:Bool} (h:V4 x w=0):RowV x:=by
 have hk:=A6r h
 unfold V4 at h
 rw [show ((decide ((x.length:Int)<2))||(decide ((80:Int)<(x.length:Int))))=false by simp only [Bool.or_eq_false_iff,decide_eq_false_iff_not];omega,cond_false] at h
 obtain ⟨h1,h2,h3⟩:=C5w x 0 Cel.zero h
 refine ⟨⟨hk.1,hk.2.1⟩,h1,hk.2.2,fun i hi hw=>?_,fun i hi hw=>?_⟩
 ·by_cases hn:i+1<x.length
  ·exact ⟨hn,(h2 (i+1) hn).1 hw⟩
  ·have e:x.length=i+1:=by omega
   rw [e] at h3;exact absurd hw h3
 ·have:=(h2 i hi).2 hw
  cases i with
  | zero=>exact absurd (show (0:Int)=1 from this) (by decide)
  | succ i=>exact ⟨Nat.succ_pos _,this⟩
def ext (c1:Int) (c2:List Cel):Nat→Prn→Prn
 | 0,r=>r
 | fu+1,r=>if r.til<c1∧c2.getD r.til.toNat Cel.zero=r.sign then ext c1 c2 fu {r with many:=r.many+1,til:=r.til+(1+r.sign.wide)} else r
structure RunB (c1:Int) (c2:List Cel):Prop where
 wide:∀ c ∈ c2,0≤c.wide∧c.wide≤2
 len:c2.length≤80
 lim:c1≤c2.length
theorem RowV.runB {x:List Cel} (h:RowV x) {c1:Int} (hc:c1≤x.length):RunB c1 x:=⟨h.wide,h.len.2,hc⟩
theorem C0j {c1:Int} {c2:List Cel} (hb:RunB c1 c2) {r:Prn} (h:r.til<c1∧c2.getD r.til.toNat Cel.zero=r.sign) (h0:0≤r.til):0≤r.sign.wide∧r.sign.wide≤2:=by
 have:=hb.lim
 have hlt:r.til.toNat<c2.length:=by omega
 rw [← h.2,gdE hlt];exact hb.wide _ (List.getElem_mem hlt)
theorem E0n {c1:Int} {c2:List Cel} (hb:RunB c1 c2) (ag:Int→List Prn):∀ (fu:Nat) (r:Prn),0≤r.til→0≤r.many→r.many≤r.til→r.til≤90→(c1 - r.til).toNat<fu→O8 c1 c2 ag fu r=ext c1 c2 fu r::ag (ext c1 c2 fu r).til
 | 0,r,_,_,_,_,h=>by omega
 | fu+1,r,h0,hm,hmt,h9,h=>by
  rw [O8,ext]
  by_cases c:r.til<c1∧c2.getD r.til.toNat Cel.zero=r.sign
  ·have hw:=C0j hb c h0
   have:=hb.lim
   have:=hb.len
   rw [if_pos c,decide_eq_true c.1,decide_eq_true c.2,Bool.and_self,cond_true,wr6 (x:=1+r.sign.wide) (by omega),wr6 (x:=r.many+1) (by omega),wr6 (x:=r.til+(1+r.sign.wide)) (by omega)]
   exact E0n hb ag fu _ (by show 0≤r.til+(1+r.sign.wide);omega) (by show 0≤r.many+1;omega) (by show r.many+1≤r.til+(1+r.sign.wide);omega) (by show r.til+(1+r.sign.wide)≤90;omega) (by show (c1 - (r.til+(1+r.sign.wide))).toNat<fu;omega)
  ·rw [if_neg c,show (decide (r.til<c1)&&decide (c2.getD r.til.toNat Cel.zero=r.sign))=false by simp only [Bool.and_eq_false_iff,decide_eq_false_iff_not];exact Decidable.not_and_iff_or_not.1 c,cond_false]
def B5c (c2:List Cel) (t:Int):Prn:={Prn.zero with sign:=c2.getD t.toNat Cel.zero,at_:=t,til:=t}
def A7e (c1:Int) (c2:List Cel) (t:Int):Prn:=ext c1 c2 ((c1 - t).toNat+1) (B5c c2 t)
theorem D3d {c1:Int} {c2:List Cel} (hb:RunB c1 c2):∀ (fu:Nat) (r:Prn),0≤r.til→r.til≤(ext c1 c2 fu r).til∧(ext c1 c2 fu r).sign=r.sign∧(ext c1 c2 fu r).at_=r.at_
 | 0,r,_=>⟨Int.le_refl _,rfl,rfl⟩
 | fu+1,r,h0=>by
  rw [ext]
  by_cases c:r.til<c1∧c2.getD r.til.toNat Cel.zero=r.sign
  ·have hw:=C0j hb c h0
   rw [if_pos c]
   have ih:=D3d hb fu {r with many:=r.many+1,til:=r.til+(1+r.sign.wide)} (by show 0≤r.til+(1+r.sign.wide);omega)
   refine ⟨?_,ih.2⟩
   have h1:r.til+(1+r.sign.wide)≤_:=ih.1
   omega
  ·rw [if_neg c];exact ⟨Int.le_refl _,rfl,rfl⟩
theorem B5x {c1:Int} {c2:List Cel} (hb:RunB c1 c2) {t:Int} (h0:0≤t) (h:t<c1):t<(A7e c1 c2 t).til∧(A7e c1 c2 t).at_=t∧(A7e c1 c2 t).sign=c2.getD t.toNat Cel.zero:=by
 unfold A7e
 have hc:(B5c c2 t).til<c1∧c2.getD (B5c c2 t).til.toNat Cel.zero=(B5c c2 t).sign:=⟨h,rfl⟩
 have hw:=C0j hb hc h0
 have hg:=D3d hb ((c1 - t).toNat+1) (B5c c2 t) h0
 refine ⟨?_,hg.2.2,hg.2.1⟩
 rw [ext,if_pos hc]
 have ih:=D3d hb ((c1 - t).toNat) {B5c c2 t with many:=(B5c c2 t).many+1,til:=(B5c c2 t).til+(1+(B5c c2 t).sign.wide)} (by show 0≤t+(1+(B5c c2 t).sign.wide);omega)
 exact Int.lt_of_lt_of_le (by show t<t+(1+(B5c c2 t).sign.wide);have:0≤(B5c c2 t).sign.wide:=hw.1;omega) ih.1
theorem C8g {c1:Int} {c2:List Cel} {fu:Nat} {t:Int} (h:¬ t<c1):I4 c1 c2 fu t=[]:=by
 cases fu with
 | zero=>rfl
 | succ fu=>rw [I4,decide_eq_false h,cond_false]
theorem C8j {c1:Int} {c2:List Cel} (hb:RunB c1 c2) {fu:Nat} {t:Int} (h0:0≤t) (h:t<c1):I4 c1 c2 (fu+1) t=A7e c1 c2 t::I4 c1 c2 fu (A7e c1 c2 t).til:=by
 have:=hb.lim
 have:=hb.len
 rw [I4,decide_eq_true h,cond_true]
 exact E0n hb _ _ (B5c c2 t) h0 (Int.le_refl 0) h0 (by show t≤90;omega) (Nat.lt_succ_self _)
theorem D6d {c1:Int} {c2:List Cel} (hb:RunB c1 c2):∀ (fu fu':Nat) (t:Int),0≤t→(c1 - t).toNat<fu→(c1 - t).toNat<fu'→I4 c1 c2 fu t=I4 c1 c2 fu' t
 | 0,_,t,_,h,_=>by omega
 | _,0,t,_,_,h=>by omega
 | fu+1,fu'+1,t,h0,h,h'=>by
  by_cases c:t<c1
  ·have:=B5x hb h0 c
   rw [C8j hb h0 c,C8j hb h0 c,D6d hb fu fu' _ (by omega) (by omega) (by omega)]
  ·rw [C8g c,C8g c]
def C1o (c1:Int) (c2:List Cel) (t:Int):List Prn:=I4 c1 c2 ((c1 - t).toNat+1) t
theorem B3g {c1:Int} {c2:List Cel} {t:Int} (h:¬ t<c1):C1o c1 c2 t=[]:=C8g h
theorem B7j {c1:Int} {c2:List Cel} (hb:RunB c1 c2) {t:Int} (h0:0≤t) (h:t<c1):C1o c1 c2 t=A7e c1 c2 t::C1o c1 c2 (A7e c1 c2 t).til:=by
 have:=B5x hb h0 h
 unfold C1o
 rw [C8j hb h0 h,D6d hb _ ((c1 - (A7e c1 c2 t).til).toNat+1) _ (by omega) (by omega) (Nat.lt_succ_self _)]
abbrev C9t:=List Act×Sty×Int×Bool
abbrev C4n:=Int×List Act×Sty×Int
def bad (c:Int) (x:C9t):Bool:=((!x.2.2.2)||(!decide ((L5 x.1).2=0)))||(decide ((0:Int)≤c)&&decide (c≤((L5 x.1).1.length:Int)))
def sel (b:C4n) (x:C9t):C4n:=bif bad b.1 x then b else (((L5 x.1).1.length:Int),x.1,x.2.1,x.2.2.1)
def A8x:C4n:=(-1,[],⟨0,0,⟨0,0⟩,⟨0,0⟩,⟨0,0⟩⟩,0)
def cP (s:Sty) (r:Prn):C9t:=J6 s [] 0 r false
def cR (s:Sty) (r:Prn):C9t:=I7 s [] 0 r false
def cB (s:Sty) (r:Prn) (last:Bool):C9t:=J9 s [] 0 r last
def A6z (s:Sty) (r:Prn) (last:Bool):C4n:=sel (sel (sel A8x (cP s r)) (cR s r)) (cB s r last)
theorem D7l (x:C9t):bad (-1) x=(((!x.2.2.2)||(!decide ((L5 x.1).2=0)))||false):=rfl
theorem E2t (s:Sty) (pl:List Act) (pat:Int) (r:Prn) (last:Bool):O0 s pl pat r last=(pl++(A6z s r last).2.1,(A6z s r last).2.2.1,(A6z s r last).2.2.2):=by
 have eP:J6 s pl pat r last=cP s r:=rfl
 have eR:I7 s pl pat r last=cR s r:=rfl
 have eB:J9 s pl pat r last=cB s r last:=rfl
 have j5:∀ (p:C4n),L6 pl p.1 p.2.1 p.2.2.1 p.2.2.2=(pl++p.2.1,p.2.2.1,p.2.2.2):=fun p=>rfl
 have j4:∀ (p:C4n),J7 s pl pat r last p.1 p.2.1 p.2.2.1 p.2.2.2=(pl++(sel p (cB s r last)).2.1,(sel p (cB s r last)).2.2.1,(sel p (cB s r last)).2.2.2):=fun p=>by
  unfold J7 B7
  rw [eB]
  show (bif bad p.1 (cB s r last) then _ else _)=_
  unfold sel
  cases bad p.1 (cB s r last)<;>rfl
 have j3:∀ (p:C4n),H1 s pl pat r last p.1 p.2.1 p.2.2.1 p.2.2.2=(pl++(sel (sel p (cR s r)) (cB s r last)).2.1,(sel (sel p (cR s r)) (cB s r last)).2.2.1,(sel (sel p (cR s r)) (cB s r last)).2.2.2):=fun p=>by
  unfold H1 B7
  rw [eR]
  show (bif bad p.1 (cR s r) then _ else _)=_
  cases h:bad p.1 (cR s r) with
  | true=>rw [cond_true,j4 p,show sel p (cR s r)=p by unfold sel;rw [h];rfl]
  | false =>
   have e:sel p (cR s r)=(((L5 (cR s r).1).1.length:Int),(cR s r).1,(cR s r).2.1,(cR s r).2.2.1):=by unfold sel;rw [h];rfl
   rw [cond_false,e];exact j4 (((L5 (cR s r).1).1.length:Int),(cR s r).1,(cR s r).2.1,(cR s r).2.2.1)
 unfold O0 B7
 rw [eP]
 show (bif bad (-1) (cP s r) then H1 s pl pat r last A8x.1 A8x.2.1 A8x.2.2.1 A8x.2.2.2 else H1 s pl pat r last ((L5 (cP s r).1).1.length:Int) (cP s r).1 (cP s r).2.1 (cP s r).2.2.1)=_
 unfold A6z
 cases h:bad (-1) (cP s r) with
 | true=>rw [cond_true,show sel A8x (cP s r)=A8x by unfold sel;rw [show A8x.1=-1 from rfl,h];rfl];exact j3 A8x
 | false =>
  have e:sel A8x (cP s r)=(((L5 (cP s r).1).1.length:Int),(cP s r).1,(cP s r).2.1,(cP s r).2.2.1):=by unfold sel;rw [show A8x.1=-1 from rfl,h];rfl
  rw [cond_false,e];exact j3 (((L5 (cP s r).1).1.length:Int),(cP s r).1,(cP s r).2.1,(cP s r).2.2.1)
theorem B9q (to_:Int) (x:Prn) (l:List Prn) (s:Sty) (bl:List Act) (t:Int):J5 to_ (x::l) s bl t=J5 to_ l (A6z s x (decide (x.til=to_))).2.2.1 (bl++(A6z s x (decide (x.til=to_))).2.1) (A6z s x (decide (x.til=to_))).2.2.2:=by
 rw [J5,E2t];rfl
theorem C9c (to_:Int):∀ (l:List Prn) (s:Sty) (bl:List Act) (t:Int),J5 to_ l s bl t=(bl++(J5 to_ l s [] t).1,(J5 to_ l s [] t).2)
 | [],s,bl,t=>by
  show (bl,s,t,(0:Int))=(bl++[],s,t,0)
  rw [List.append_nil]
 | x::l,s,bl,t=>by
  rw [B9q,B9q,C9c to_ l _ (bl++_) _,C9c to_ l _ ([]++_) _,List.nil_append,List.append_assoc]
theorem E1i {x:List Cel} {from_ to_:Int} {s:Sty} (h:(N7 x from_ to_ s).2.2.2≠0):(N7 x from_ to_ s).1=[]:=by
 have hj:∀ e,(O3 x from_ to_ s e).2.2.2≠0→(O3 x from_ to_ s e).1=[]:=fun e=>by
  unfold O3
  by_cases h0:e=0
  ·rw [decide_eq_true h0,Bool.not_true,cond_false]
   cases (((((decide (from_<0))||(decide (to_<from_)))||(decide ((x.length:Int)<to_)))||((decide (from_<(x.length:Int)))&&(decide ((x.getD ((from_).toNat) Cel.zero).wide=2))))||((decide (to_<(x.length:Int)))&&(decide ((x.getD ((to_).toNat) Cel.zero).wide=2)))) with
   | true=>exact fun _=>rfl
   | false =>
    rw [cond_false]
    intro hne
    exfalso
    apply hne
    have hz:∀ (l:List Prn) (s:Sty) (bl:List Act) (t:Int),(J5 to_ l s bl t).2.2.2=0:=fun l=>by
     induction l with
     | nil=>intro s bl t;rfl
     | cons y l ih=>intro s bl t;rw [B9q];exact ih _ _ _
    exact hz _ _ _ _
  ·rw [decide_eq_false h0,Bool.not_false,cond_true];exact fun _=>rfl
 unfold N7 at h ⊢
 cases hc:decide (V4 x false=0) with
 | true=>rw [hc] at h;exact hj _ h
 | false=>rw [hc] at h;exact hj _ h
structure SpanOk (x:List Cel) (from_ to_:Int) (s:Sty):Prop where
 row:RowV x
 sty:E9 s=0
 lim:0≤from_∧from_≤to_∧to_≤x.length
 f2:from_<x.length→(x.getD from_.toNat Cel.zero).wide≠2
 t2:to_<x.length→(x.getD to_.toNat Cel.zero).wide≠2
 is:N7 x from_ to_ s=J5 to_ (C1o to_ x from_) s [] to_
theorem E2g {x:List Cel} {from_ to_:Int} {s:Sty} (h:(N7 x from_ to_ s).2.2.2=0):SpanOk x from_ to_ s:=by
 unfold N7 at h
 by_cases hr:V4 x false=0
 ·rw [decide_eq_true hr,cond_true] at h
  have h':=h
  unfold O3 at h
  by_cases h0:E9 s=0
  ·rw [decide_eq_true h0,Bool.not_true,cond_false] at h
   cases hc:(((((decide (from_<0))||(decide (to_<from_)))||(decide ((x.length:Int)<to_)))||((decide (from_<(x.length:Int)))&&(decide ((x.getD ((from_).toNat) Cel.zero).wide=2))))||((decide (to_<(x.length:Int)))&&(decide ((x.getD ((to_).toNat) Cel.zero).wide=2)))) with
   | true=>rw [hc] at h;exact absurd (show (2:Int)=0 from h) (by decide)
   | false =>
    have hc':=hc
    simp only [Bool.or_eq_false_iff,Bool.and_eq_false_iff,decide_eq_false_iff_not] at hc
    refine ⟨F0n hr,h0,⟨by omega,by omega,by omega⟩,fun hl=>hc.1.2.resolve_left (fun n=>n hl),fun hl=>hc.2.resolve_left (fun n=>n hl),?_⟩
    unfold N7
    rw [decide_eq_true hr,cond_true]
    unfold O3
    rw [decide_eq_true h0,Bool.not_true,cond_false,hc',cond_false]
    rfl
  ·rw [decide_eq_false h0,Bool.not_false,cond_true] at h;exact absurd h h0
 ·rw [decide_eq_false hr,cond_false] at h
  unfold O3 at h
  rw [decide_eq_false hr,Bool.not_false,cond_true] at h;exact absurd h hr
end Go.Proofs.YtanighkpfmgnbaaGreatDoor
set_option linter.unusedVariables false
set_option linter.unusedSimpArgs false
set_option maxRecDepth 10000
namespace Go.Proofs.YtanighkpfmgnbaaGreatDoor
open Go Go.Fen
def AtC (x:List Cel) (t:Int):Prop:=t<x.length→(x.getD t.toNat Cel.zero).wide≠2
theorem E6o {x:List Cel} {t:Int} (h0:0≤t) (k:Nat):x.getD (t+k).toNat Cel.zero=x.getD (t.toNat+k) Cel.zero:=by
 rw [show (t+(k:Int)).toNat=t.toNat+k by omega]
theorem D5w {x:List Cel} (hv:RowV x) {t:Int} (h0:0≤t) (ht:t<x.length) (h2:(x.getD t.toNat Cel.zero).wide≠2):0≤(x.getD t.toNat Cel.zero).wide∧(x.getD t.toNat Cel.zero).wide≤1∧AtC x (t+(1+(x.getD t.toNat Cel.zero).wide))∧((x.getD t.toNat Cel.zero).wide=1→t+1<x.length∧(x.getD (t+1).toNat Cel.zero).wide=2):=by
 have hlt:t.toNat<x.length:=by omega
 have hw:=hv.wide _ (List.getElem_mem hlt)
 rw [← gdE (d:=Cel.zero) hlt] at hw
 have h1:(x.getD t.toNat Cel.zero).wide=1→t+1<x.length∧(x.getD (t+1).toNat Cel.zero).wide=2:=fun e=>by
  obtain ⟨g1,g2⟩:=hv.next t.toNat hlt e
  have:=E6o (x:=x) h0 1
  exact ⟨by omega,by rw [show t+1=t+((1:Nat):Int) from rfl,this];exact g2⟩
 refine ⟨hw.1,by omega,fun hl hc=>?_,h1⟩
 by_cases e:(x.getD t.toNat Cel.zero).wide=1
 ·rw [e] at hl hc
  have e2:(t+(1+1)).toNat=t.toNat+2:=by omega
  rw [e2] at hc
  have:=(hv.prev (t.toNat+2) (by omega) hc).2
  obtain ⟨g1,g2⟩:=h1 e
  rw [show (t+1).toNat=t.toNat+2 - 1 by omega] at g2
  omega
 ·have e0:(x.getD t.toNat Cel.zero).wide=0:=by omega
  rw [e0] at hl hc
  have e2:(t+(1+0)).toNat=t.toNat+1:=by omega
  rw [e2] at hc
  have:=(hv.prev (t.toNat+1) (by omega) hc).2
  rw [show t.toNat+1 - 1=t.toNat by omega] at this
  omega
theorem E0p {x:List Cel} (hv:RowV x) {c1:Int} (hc:c1≤x.length):∀ (fu:Nat) (r:Prn),0≤r.til→AtC x r.til→r.sign.wide≠2→AtC x (ext c1 x fu r).til
 | 0,r,_,h,_=>h
 | fu+1,r,h0,h,h2=>by
  rw [ext]
  by_cases c:r.til<c1∧x.getD r.til.toNat Cel.zero=r.sign
  ·rw [if_pos c]
   have hs:=D5w hv h0 (by omega) (by rw [c.2];exact h2)
   rw [c.2] at hs
   exact E0p hv hc fu _ (by show 0≤r.til+(1+r.sign.wide);omega) hs.2.2.1 h2
  ·rw [if_neg c];exact h
structure CutAt (x:List Cel) (mid to_:Int):Prop where
 lt:0<mid∧mid<to_∧to_≤x.length
 at_:(x.getD mid.toNat Cel.zero).wide≠2
 ne:x.getD mid.toNat Cel.zero≠x.getD (mid - 1).toNat Cel.zero
 pw:(x.getD (mid - 1).toNat Cel.zero).wide≠2
theorem R0.app {l m:List Act}:R0 (l++m) ↔ R0 l∧R0 m:=⟨fun h=>⟨fun a ha=>h a (List.mem_append_left _ ha),fun a ha=>h a (List.mem_append_right _ ha)⟩,fun h a ha=>(List.mem_append.1 ha).elim (h.1 a) (h.2 a)⟩
theorem D7t {x:List Cel} {c1:Int} (hv:RowV x) (hc:c1≤x.length) {t:Int} (h0:0≤t):∀ r ∈ C1o c1 x t,0≤r.many∧r.many≤100 :=
 (A5v c1 x hv.wide hc hv.len.2 ((c1 - t).toNat+1) t h0).2
theorem D4e {s:Sty} {r:Prn} {last:Bool}:(A6z s r last).2.2.1=A8x.2.2.1∨(A6z s r last).2.2.1=(cP s r).2.1∨(A6z s r last).2.2.1=(cR s r).2.1∨(A6z s r last).2.2.1=(cB s r last).2.1:=by
 have hsel:∀ (q:C4n) (c:C9t),(sel q c).2.2.1=q.2.2.1∨(sel q c).2.2.1=c.2.1:=fun q c=>by
  unfold sel;cases bad q.1 c with
  | true=>exact .inl rfl
  | false=>exact .inr rfl
 unfold A6z
 rcases hsel (sel (sel A8x (cP s r)) (cR s r)) (cB s r last) with h | h
 ·rcases hsel (sel A8x (cP s r)) (cR s r) with h2 | h2
  ·rcases hsel A8x (cP s r) with h3 | h3
   ·exact .inl (h.trans (h2.trans h3))
   ·exact .inr (.inl (h.trans (h2.trans h3)))
  ·exact .inr (.inr (.inl (h.trans h2)))
 ·exact .inr (.inr (.inr h))
theorem C7d (s:Sty):E9 s=0 ↔ ((bOp .andNot .i64 s.attr 255)=0∧0≤s.under∧s.under≤5)∧C8 s.fore=0∧C8 s.back=0∧C8 s.line=0:=by
 unfold E9
 by_cases h1:(bOp .andNot .i64 s.attr 255)=0∧0≤s.under∧s.under≤5
 ·rw [show (((!decide ((bOp .andNot .i64 s.attr 255)=0))||(decide (s.under<0)))||(decide ((5:Int)<s.under)))=false by simp only [Bool.or_eq_false_iff,Bool.not_eq_false',decide_eq_true_eq,decide_eq_false_iff_not];omega,cond_false]
  by_cases h2:C8 s.fore=0
  ·rw [decide_eq_true h2,Bool.not_true,cond_false]
   by_cases h3:C8 s.back=0
   ·rw [decide_eq_true h3,Bool.not_true,cond_false]
    by_cases h4:C8 s.line=0
    ·rw [decide_eq_true h4];exact ⟨fun _=>⟨h1,h2,h3,h4⟩,fun _=>rfl⟩
    ·rw [decide_eq_false h4];exact ⟨fun h=>absurd h h4,fun h=>absurd h.2.2.2 h4⟩
   ·rw [decide_eq_false h3];exact ⟨fun h=>absurd h h3,fun h=>absurd h.2.2.1 h3⟩
  ·rw [decide_eq_false h2];exact ⟨fun h=>absurd h h2,fun h=>absurd h.2.1 h2⟩
 ·rw [show (((!decide ((bOp .andNot .i64 s.attr 255)=0))||(decide (s.under<0)))||(decide ((5:Int)<s.under)))=true by
   simp only [Bool.or_eq_true,Bool.not_eq_true',decide_eq_true_eq,decide_eq_false_iff_not]
   by_cases h5:(bOp .andNot .i64 s.attr 255)=0
   ·have:¬ (0≤s.under∧s.under≤5):=fun h=>h1 ⟨h5,h⟩
    omega
   ·exact .inl (.inl h5),cond_true]
  exact ⟨fun h=>absurd h (by decide),fun h=>absurd h.1 h1⟩
theorem D1e {s t:Sty} (hs:E9 s=0) (ht:E9 t=0):E9 {s with back:=t.back}=0:=by
 rw [C7d] at hs ht ⊢
 exact ⟨hs.1,hs.2.1,ht.2.2.1,hs.2.2.2⟩
theorem B9n:E9 Sty.zero=0:=by decide +kernel
theorem B9p {c:Cel} (h:H5 c=0):E9 c.sty=0:=by
 unfold H5 at h
 by_cases hs:E9 c.sty=0
 ·exact hs
 ·rw [decide_eq_false hs,Bool.not_false,Bool.or_true,cond_true] at h;exact absurd (show (221:Int)=0 from h) (by decide)
theorem C1n (r:Prn):∀ (fu:Nat) (l:List Act) (t:Nat),(F5 r fu l t).2.1=Sty.zero∨(F5 r fu l t).2.1=r.sign.sty
 | 0,l,t=>.inl rfl
 | fu+1,l,t=>by
  rw [F5]
  cases decide ((t:Int)<r.many) with
  | true=>rw [cond_true,B7];exact C1n r fu _ _
  | false=>exact .inr rfl
theorem D9y {s:Sty} {r:Prn} {last:Bool} (hs:E9 s=0) (hr:E9 r.sign.sty=0):E9 (A6z s r last).2.2.1=0:=by
 rcases D4e (s:=s) (r:=r) (last:=last) with h | h | h | h<;>rw [h]
 ·exact B9n
 ·unfold cP J6 B7
  rcases C1n r ((r.many - (0:Int)).toNat+1) (A1 s [] 0 r.sign.sty) 0 with h | h
  ·exact (congrArg E9 h).trans B9n
  ·exact (congrArg E9 h).trans hr
 ·unfold cR I7 B7
  cases ((decide (r.many<2))||(!(Y6 r.sign))) with
  | true=>exact B9n
  | false=>exact hr
 ·unfold cB J9
  cases (((!(Y6 r.sign))||(!decide (r.sign.base=32)))||(!(decide (r.sign.sty={Sty.zero with back:=r.sign.sty.back})))) with
  | true=>exact B9n
  | false=>cases last<;>exact D1e hs hr
set_option maxRecDepth 100000 in
theorem C8u:A8e=true:=by decide +kernel
end Go.Proofs.YtanighkpfmgnbaaGreatDoor
set_option linter.unusedVariables false
set_option linter.unusedSimpArgs false
namespace Go.Proofs.YtanighkpfmgnbaaGreatDoor
open Go Go.Fen
theorem C1g (v:BitVec 64):IntKind.i64.wrap (v.toNat:Int)=v.toInt:=by
 rw [BitVec.toInt_eq_toNat_bmod]
 have h:=v.isLt
 rw [Int.bmod_def]
 unfold IntKind.wrap
 simp only [IntKind.bits,IntKind.signed]
 have e:((2:Int) ^ 64)=18446744073709551616:=by decide
 have e2:(((2 ^ 64:Nat):Int))=18446744073709551616:=by decide
 have e3:((2:Int) ^ 63)=9223372036854775808:=by decide
 simp
 omega
theorem D3k (v:BitVec 64):BitVec.ofInt 64 (IntKind.i64.wrap (v.toNat:Int))=v:=by rw [C1g,BitVec.ofInt_toInt]
def bq (x:Int) (j:Nat):Bool:=(BitVec.ofInt 64 x).getLsbD j
theorem C0t (x y:Int) (j:Nat) (hj:j<64):bq (bOp .andNot .i64 x y) j=(bq x j&&!bq y j):=by
 unfold bq bOp
 show (BitVec.ofInt 64 (IntKind.i64.wrap ((BitVec.ofInt 64 x &&& ~~~BitVec.ofInt 64 y).toNat:Int))).getLsbD j=_
 rw [D3k,BitVec.getLsbD_and,BitVec.getLsbD_not,decide_eq_true hj,Bool.true_and]
theorem B1p (x:Int) (b:Int) (j:Nat) (hb:BitVec.ofInt 64 b=BitVec.twoPow 64 j) (hv:(BitVec.twoPow 64 j).toInt=b):bOp .and .i64 x b=bif bq x j then b else 0:=by
 unfold bq bOp
 show IntKind.i64.wrap ((BitVec.ofInt 64 x &&& BitVec.ofInt 64 b).toNat:Int)=_
 rw [C1g,hb,BitVec.and_twoPow]
 cases (BitVec.ofInt 64 x).getLsbD j with
 | true=>simpa using hv
 | false=>simp
theorem F0x (x:Int):bOp .and .i64 x 1=bif bq x 0 then 1 else 0:=B1p x 1 0 (by decide) (by decide)
theorem F0m (x:Int):bOp .and .i64 x 2=bif bq x 1 then 2 else 0:=B1p x 2 1 (by decide) (by decide)
theorem F0c (x:Int):bOp .and .i64 x 4=bif bq x 2 then 4 else 0:=B1p x 4 2 (by decide) (by decide)
theorem F0l (x:Int):bOp .and .i64 x 8=bif bq x 3 then 8 else 0:=B1p x 8 3 (by decide) (by decide)
theorem E8d (x:Int):bOp .and .i64 x 16=bif bq x 4 then 16 else 0:=B1p x 16 4 (by decide) (by decide)
theorem E8x (x:Int):bOp .and .i64 x 32=bif bq x 5 then 32 else 0:=B1p x 32 5 (by decide) (by decide)
theorem E8a (x:Int):bOp .and .i64 x 64=bif bq x 6 then 64 else 0:=B1p x 64 6 (by decide) (by decide)
theorem E6y (x:Int):bOp .and .i64 x 128=bif bq x 7 then 128 else 0:=B1p x 128 7 (by decide) (by decide)
theorem F0g (x:Int):decide (bOp .and .i64 x 3=0)=(!(bq x 0||bq x 1)):=by
 have e:BitVec.ofInt 64 3=BitVec.twoPow 64 0 ||| BitVec.twoPow 64 1:=by decide
 unfold bq bOp
 show decide (IntKind.i64.wrap ((BitVec.ofInt 64 x &&& BitVec.ofInt 64 3).toNat:Int)=0)=_
 rw [C1g,e,BitVec.and_or_distrib_left,BitVec.and_twoPow,BitVec.and_twoPow]
 cases (BitVec.ofInt 64 x).getLsbD 0<;>cases (BitVec.ofInt 64 x).getLsbD 1<;>decide
theorem qnz (c:Bool) (b:Int) (hb:b≠0):decide ((bif c then b else 0)=0)=!c:=by cases c<;>simp [hb]
theorem bq3:∀ j<8,bq 3 j=(decide (j=0)||decide (j=1)):=by decide
def gq (f t:Sty):Bool:=(bq f.attr 0&&!bq t.attr 0)||(bq f.attr 1&&!bq t.attr 1)
theorem E1h (f t:Sty):C7w f t=gq f t:=by
 unfold C7w gq;rw [F0g,Bool.not_not,C0t _ _ _ (by omega),C0t _ _ _ (by omega)]
theorem E3s (f t:Sty) (j:Nat) (hj:j<8):bq (C6d f t) j=(bq f.attr j&&!(gq f t&&decide (j<2))):=by
 unfold C6d;rw [E1h]
 cases gq f t with
 | false=>simp
 | true =>
  rw [cond_true,C0t _ _ _ (by omega),bq3 j hj]
  congr 1
  rcases j with _ | _ | j<;>simp
theorem E0a (x:Int):∀ j<8,bOp .and .i64 x (pw8 j)=bif bq x j then pw8 j else 0:=by
 intro j hj
 rcases j with _ | _ | _ | _ | _ | _ | _ | _ | j
 ·exact F0x x
 ·exact F0m x
 ·exact F0c x
 ·exact F0l x
 ·exact E8d x
 ·exact E8x x
 ·exact E8a x
 ·exact E6y x
 ·omega
theorem E4o:∀ j<8,pw8 j≠0:=by decide
theorem D9m:C5m=(List.range 8).map pw8:=by decide
theorem E2m (f t:Sty) (j:Nat) (hj:j<8):D2y (C6d f t) t (pw8 j)=(bq (C6d f t) j&&!bq t.attr j):=by
 unfold D2y;rw [E0a _ j hj,E0a _ j hj,qnz _ _ (E4o j hj),qnz _ _ (E4o j hj),Bool.not_not]
theorem E4c (f t:Sty) (j:Nat) (hj:j<2):D2y (C6d f t) t (pw8 j)=false:=by
 rw [E2m f t j (by omega),E3s f t j (by omega),show decide (j<2)=true by simp [hj],Bool.and_true]
 unfold gq
 rcases j with _ | _ | j
 ·cases bq f.attr 0<;>cases bq t.attr 0<;>simp
 ·cases bq f.attr 1<;>cases bq t.attr 1<;>simp
 ·omega
theorem E4g {c:Bool} {a x:Act} (h:x ∈ A2g c a):c=true∧x=a:=by
 cases c with
 | true=>exact ⟨rfl,by simpa [A2g] using h⟩
 | false=>simp [A2g] at h
theorem E4t {f t:Sty} (ht:E9 t=0):∀ a ∈ chg f t,C6h a:=by
 intro a ha
 have hs:=(C7d t).1 ht
 have hb:∀ b ∈ C5m,∃ j:Nat,j<8∧b=pw8 j:=fun b hb=>by
  rw [D9m] at hb
  obtain ⟨j,hj,rfl⟩:=List.mem_map.1 hb
  exact ⟨j,List.mem_range.1 hj,rfl⟩
 unfold chg D7m D0h C0c at ha
 simp only [List.mem_append,List.mem_flatMap] at ha
 rcases ha with h | ⟨b,hbb,h⟩ | ⟨b,hbb,h⟩ | h | h | h | h
 ·rw [A7a h];exact .inr (.inr (.inl rfl))
 ·obtain ⟨j,hj,rfl⟩:=hb b hbb
  obtain ⟨hc,e⟩:=E4g h
  rw [e]
  by_cases h2:j<2
  ·rw [E4c f t j h2] at hc;cases hc
  ·exact .inr (.inr (.inr (.inl ⟨j,hj,by omega,rfl⟩)))
 ·obtain ⟨j,hj,rfl⟩:=hb b hbb
  rw [A7a h];exact .inr (.inl ⟨j,hj,rfl⟩)
 ·rw [A7a h];exact .inr (.inr (.inr (.inr (.inl ⟨t.under,hs.1.2.1,hs.1.2.2,rfl⟩))))
 ·rw [A7a h];exact .inr (.inr (.inr (.inr (.inr ⟨4,t.fore,.inl rfl,hs.2.1,rfl⟩))))
 ·rw [A7a h];exact .inr (.inr (.inr (.inr (.inr ⟨5,t.back,.inr (.inl rfl),hs.2.2.1,rfl⟩))))
 ·rw [A7a h];exact .inr (.inr (.inr (.inr (.inr ⟨6,t.line,.inr (.inr rfl),hs.2.2.2,rfl⟩))))
theorem D7y {f t:Sty} (ht:E9 t=0):∀ a ∈ (A1e f t).1,C6h a:=by
 have h:=E4t (f:=f) ht
 rw [← A3z] at h
 unfold A1e;simp only [B7,Bool.cond_eq_ite];repeat' split
 all_goals first|exact h|simp
theorem E5x {t:Sty} (ht:E9 t=0):∀ a ∈ A8g t,C6h a:=by
 rw [B5d]
 intro a ha
 rcases List.mem_cons.1 ha with rfl | ha
 ·exact .inl rfl
 ·exact E4t ht a ha
theorem E3k {f t:Sty} (ht:E9 t=0):∀ a ∈ (A0x f t).1,C6h a:=by
 have h:=D7y (f:=f) ht;have h2:=E5x ht
 unfold A0x;simp only [B7,Bool.cond_eq_ite];repeat' split
 all_goals first|exact h2|exact h|simp
theorem D8o {a:Act} (hp:C6h a):K3 a=true:=by
 have hT:=B6f hp
 have hk:a.kind=39:=by
  rcases hp with e | ⟨j,hj,e⟩ | e | ⟨j,hj,h2,e⟩ | ⟨m,h0,h5,e⟩ | ⟨p,c,hp,hc,e⟩<;>rw [e]<;>rfl
 unfold K3
 rw [decide_eq_true hk,cond_true,hT.rchk];rfl
theorem D9r {a:Act} (h:(N2 a).2=0):a={Act.zero with kind:=44,text:=a.text}∨a={Act.zero with kind:=45,n:=a.n,color:=a.color}∨a={Act.zero with kind:=46,text:=a.text}:=by
 unfold N2 B7 at h
 simp only [Bool.cond_eq_ite] at h
 split at h
 ·rename_i e;simp only [Bool.and_eq_true,decide_eq_true_eq] at e;exact .inl e.1
 split at h
 ·rename_i e;simp only [Bool.and_eq_true,decide_eq_true_eq] at e;exact .inr (.inl e.1.1.1)
 split at h
 ·rename_i e;simp only [Bool.and_eq_true,decide_eq_true_eq] at e;exact .inr (.inr e.1)
 ·exact absurd h (by decide)
theorem E5d {a:Act} (h:C6h a):D4i a.m:=by
 have hp:∀ j<8,0≤pw8 j∧pw8 j≤1000:=by decide +kernel
 unfold D4i
 rcases h with rfl | ⟨j,hj,rfl⟩ | rfl | ⟨j,hj,h2,rfl⟩ | ⟨m,h0,h5,rfl⟩ | ⟨p,c,hp,hc,rfl⟩
 ·decide
 ·have:=hp j hj;show _≤pw8 j∧pw8 j≤_;omega
 ·decide
 ·have:=hp j hj;show _≤pw8 j∧pw8 j≤_;omega
 ·show _≤m∧m≤_;omega
 ·show _≤(0:Int)∧(0:Int)≤_;omega
theorem E3j {a:Act} (h:K3 a=true):D4i a.m:=by
 have hr:=C1j h
 by_cases h39:a.kind=39
 ·unfold K3 at h
  rw [decide_eq_true h39,cond_true,decide_eq_true_iff] at h
  exact E5d (E0w h)
 unfold K3 U6 B7 at h
 rw [decide_eq_false h39,cond_false] at h
 by_cases h4:a.kind=44∨a.kind=45∨a.kind=46
 ·have h8:(N2 a).2=0:=by
   rcases h4 with e | e | e<;>rw [e] at h<;>exact of_decide_eq_true h
  rcases D9r h8 with e | e | e<;>rw [e]<;>exact ⟨by show _≤(0:Int);omega,by show (0:Int)≤_;omega⟩
 ·simp only [show ¬ a.kind=44 by omega,show ¬ a.kind=45 by omega,show ¬ a.kind=46 by omega,decide_false,cond_false,Bool.and_eq_true] at h
  unfold D4i
  by_cases h1:a.kind=1
  ·have hn:=h.1.1
   unfold S0 at hn
   rw [decide_eq_true h1,cond_true] at hn
   simp only [Bool.and_eq_true,decide_eq_true_eq] at hn
   omega
  ·unfold D3n at hr;omega
theorem D3c {f t:Sty} (ht:E9 t=0):R0 (A0x f t).1:=fun a ha=>D8o (E3k ht a ha)
end Go.Proofs.YtanighkpfmgnbaaGreatDoor
set_option linter.unusedVariables false
set_option linter.unusedSimpArgs false
set_option maxRecDepth 10000
namespace Go.Proofs.YtanighkpfmgnbaaGreatDoor
open Go Go.Fen
def ch (n:Int):Act:={Act.zero with kind:=1,n:=n}
def B0k (m:Ar2):List Act:=(if m.a=0 then [] else [ch m.a])++(if m.b=0 then [] else [ch m.b])
def B3w (c:Cel):List Act:=(if c.wide=2 then [] else [ch c.base])++B0k c.marks
theorem C7t (l:List Act) (c:Cel):Z4 l c=l++(ch c.base::B0k c.marks):=by
 unfold Z4 B0k
 by_cases h1:c.marks.a=0
 ·by_cases h2:c.marks.b=0
  ·rw [decide_eq_true h1,decide_eq_true h2,if_pos h1,if_pos h2];simp [ch]
  ·rw [decide_eq_true h1,decide_eq_false h2,if_pos h1,if_neg h2];simp [ch]
 ·by_cases h2:c.marks.b=0
  ·rw [decide_eq_false h1,decide_eq_true h2,if_neg h1,if_pos h2];simp [ch]
  ·rw [decide_eq_false h1,decide_eq_false h2,if_neg h1,if_neg h2];simp [ch]
def sgn (c:Cel):List Act:=ch c.base::B0k c.marks
theorem C8c {c:Cel} (h:c.wide≠2):B3w c=sgn c:=by unfold B3w;rw [if_neg h];rfl
theorem C3r {c:Cel} (hk:H5 c=0) (h:c.wide=2):B3w c=[]:=by
 unfold H5 at hk
 have hh:A1l c=true:=by
  cases hh:A1l c with
  | true=>rfl
  | false =>
   rw [hh,show (((decide ((0:Int)≤c.wide))&&(decide (c.wide≤1))))=false by simp only [Bool.and_eq_false_iff,decide_eq_false_iff_not];omega] at hk
   simp at hk
 unfold A1l at hh
 have e:=of_decide_eq_true hh
 have em:c.marks=Ar2.zero:=by rw [e];rfl
 unfold B3w
 rw [if_pos h,em];rfl
def rep (n:Nat) (l:List Act):List Act:=(List.replicate n l).flatten
theorem E0z (n:Nat) (l:List Act):rep (n+1) l=rep n l++l:=by
 unfold rep;rw [List.replicate_succ',List.flatten_append];simp
theorem D7d (n:Nat) (l:List Act):rep (n+1) l=l++rep n l:=by
 unfold rep;rw [List.replicate_succ,List.flatten_cons]
theorem D5u {n:Nat} {l:List Act} {a:Act} (h:a ∈ rep n l):a ∈ l:=by
 unfold rep at h
 obtain ⟨m,hm,ha⟩:=List.mem_flatten.1 h
 rw [(List.mem_replicate.1 hm).2] at ha;exact ha
theorem C6c (r:Prn):∀ (fu:Nat) (l:List Act) (t:Nat),(r.many - t).toNat<fu→F5 r fu l t=(l++rep (r.many - t).toNat (sgn r.sign),r.sign.sty,r.til,true)
 | 0,l,t,h=>by omega
 | fu+1,l,t,h=>by
  rw [F5]
  by_cases c:(t:Int)<r.many
  ·rw [decide_eq_true c,cond_true,B7,C7t,C6c r fu _ (t+1) (by omega)]
   rw [show (r.many - (t:Int)).toNat=(r.many - ((t+1:Nat):Int)).toNat+1 by omega,D7d,List.append_assoc];rfl
  ·rw [decide_eq_false c,cond_false,show (r.many - (t:Int)).toNat=0 by omega]
   show (l,r.sign.sty,r.til,true)=(l++[],r.sign.sty,r.til,true)
   rw [List.append_nil]
def stp (s t:Sty):List Act:=(A0x s t).1
theorem D6p (s:Sty) (r:Prn):cP s r=(stp s r.sign.sty++rep r.many.toNat (sgn r.sign),r.sign.sty,r.til,true):=by
 unfold cP J6 B7
 have:=C6c r ((r.many - (0:Int)).toNat+1) (A1 s [] 0 r.sign.sty) 0 (Nat.lt_succ_self _)
 rw [show (r.many - ((0:Nat):Int)).toNat=r.many.toNat by omega] at this
 exact this
theorem E5a (s:Sty) (r:Prn):cR s r=([],⟨0,0,⟨0,0⟩,⟨0,0⟩,⟨0,0⟩⟩,0,false)∨(2≤r.many∧cR s r=((stp s r.sign.sty++sgn r.sign)++[{Act.zero with kind:=34,n:=IntKind.i64.wrap (r.many - 1)}],r.sign.sty,r.til,true)):=by
 unfold cR I7
 by_cases h:r.many<2
 ·rw [decide_eq_true h];exact .inl rfl
 ·rw [decide_eq_false h,Bool.false_or]
  cases Y6 r.sign with
  | false=>exact .inl rfl
  | true =>
   refine .inr ⟨by omega,?_⟩
   simp only [B7,Bool.not_true,cond_false]
   rw [C7t];rfl
theorem D6i (s:Sty) (r:Prn) (last:Bool):cB s r last=([],⟨0,0,⟨0,0⟩,⟨0,0⟩,⟨0,0⟩⟩,0,false)∨∃ l,(l=stp s {s with back:=r.sign.sty.back}++[{Act.zero with kind:=30,n:=r.many}]∨l=(stp s {s with back:=r.sign.sty.back}++[{Act.zero with kind:=30,n:=r.many}])++[{Act.zero with kind:=20,n:=2,m:=r.many}])∧∃ a,cB s r last=(l,{s with back:=r.sign.sty.back},a,true):=by
 unfold cB J9
 cases (((!(Y6 r.sign))||(!decide (r.sign.base=32)))||(!(decide (r.sign.sty={Sty.zero with back:=r.sign.sty.back})))) with
 | true=>exact .inl rfl
 | false =>
  cases last with
  | true=>exact .inr ⟨_,.inl rfl,_,rfl⟩
  | false=>exact .inr ⟨_,.inr rfl,_,rfl⟩
theorem C1h {k n m:Int} (h1:k≠1) (h39:k≠39) (h44:k≠44) (h45:k≠45) (h46:k≠46) (hN:C6f.contains k=true) (h:(D9 k n&&F1 k m)=true):K3 ⟨k,n,m,Col.zero,[]⟩=true:=by
 unfold K3 U6
 simp only [decide_eq_false h39,decide_eq_false h44,decide_eq_false h45,decide_eq_false h46,cond_false]
 rw [← C9p (a:=⟨k,n,m,Col.zero,[]⟩) h1 hN,h];rfl
theorem C4c {n:Int} (h:0≤I8 n):K3 (ch n)=true:=by
 rw [D0t] at h
 unfold ch K3 U6 S0
 simp only [Act.zero,Int.reduceEq,decide_true,decide_false,cond_true,cond_false,decide_eq_true h,Bool.and_true,Bool.true_and]
theorem D7z {n:Int} (h:1≤n∧n≤9999):K3 {Act.zero with kind:=34,n:=n}=true :=
 C1h (k:=34) (n:=n) (m:=0) (by decide) (by decide) (by decide) (by decide) (by decide) (by decide) (by
  simp only [D9,F1,Int.reduceEq,decide_true,decide_false,cond_true,cond_false,B4i,Bool.and_eq_true,decide_eq_true_eq];omega)
theorem C1v {n:Int} (h:1≤n∧n≤9999):K3 {Act.zero with kind:=30,n:=n}=true :=
 C1h (k:=30) (n:=n) (m:=0) (by decide) (by decide) (by decide) (by decide) (by decide) (by decide) (by
  simp only [D9,F1,Int.reduceEq,decide_true,decide_false,cond_true,cond_false,B4i,Bool.and_eq_true,decide_eq_true_eq];omega)
theorem D3p {m:Int} (h:1≤m∧m≤9999):K3 {Act.zero with kind:=20,n:=2,m:=m}=true :=
 C1h (k:=20) (n:=2) (m:=m) (by decide) (by decide) (by decide) (by decide) (by decide) (by decide) (by
  simp only [D9,F1,Int.reduceEq,decide_true,decide_false,cond_true,cond_false,B4i,Bool.and_eq_true,decide_eq_true_eq];omega)
theorem D4p {c:Cel} (hk:H5 c=0) (h:c.wide≠2):0≤I8 c.base∧U9 c.marks=true:=by
 unfold H5 at hk
 have hh:A1l c=false:=by
  cases hh:A1l c with
  | false=>rfl
  | true=>exact absurd (C7m hh) h
 rw [hh] at hk
 by_cases h1:(0≤c.wide∧c.wide≤1)∧I8 c.base=IntKind.i64.wrap (c.wide+1)∧U9 c.marks=true
 ·refine ⟨?_,h1.2.2⟩
  rw [h1.2.1,wr6 (by omega)];omega
 ·rw [show ((((decide ((0:Int)≤c.wide))&&(decide (c.wide≤1)))&&(decide ((I8 c.base)=(IntKind.i64.wrap (c.wide+(1:Int))))))&&(U9 c.marks))=false by
   rw [← Bool.not_eq_true];simp only [Bool.and_eq_true,decide_eq_true_eq];exact fun h2=>h1 ⟨⟨h2.1.1.1,h2.1.1.2⟩,h2.1.2,h2.2⟩] at hk
  simp at hk
theorem D4o {m:Ar2} (h:U9 m=true):R0 (B0k m):=by
 unfold U9 at h
 have e0:∀ (c:Bool),(bif c then false else true)=true→c=false:=fun c=>by cases c<;>simp
 have ha:m.a=0∨I8 m.a=0:=by
  by_cases h1:m.a=0
  ·exact .inl h1
  ·by_cases h2:I8 m.a=0
   ·exact .inr h2
   ·rw [decide_eq_false h1,decide_eq_false h2] at h;simp at h
 have hb:m.b=0∨I8 m.b=0:=by
  by_cases h1:m.b=0
  ·exact .inl h1
  ·by_cases h2:I8 m.b=0
   ·exact .inr h2
   ·rw [decide_eq_false h1,decide_eq_false h2] at h;simp at h
 unfold B0k
 refine R0.app.2 ⟨?_,?_⟩
 ·by_cases h1:m.a=0
  ·rw [if_pos h1];intro a h;cases h
  ·rw [if_neg h1];intro a h;rw [List.mem_singleton.1 h];exact C4c (by have:=ha.resolve_left h1;omega)
 ·by_cases h1:m.b=0
  ·rw [if_pos h1];intro a h;cases h
  ·rw [if_neg h1];intro a h;rw [List.mem_singleton.1 h];exact C4c (by have:=hb.resolve_left h1;omega)
theorem C4o {c:Cel} (hk:H5 c=0) (h:c.wide≠2):R0 (sgn c):=by
 obtain ⟨h1,h2⟩:=D4p hk h
 intro a ha
 rcases List.mem_cons.1 ha with rfl | ha
 ·exact C4c h1
 ·exact D4o h2 a ha
theorem D8z {n:Nat} {l:List Act} (h:R0 l):R0 (rep n l):=fun a ha=>h a (D5u ha)
theorem B8f {a:Act} (h:K3 a=true):R0 [a]:=fun x hx=>by rw [List.mem_singleton.1 hx];exact h
structure RunOk (r:Prn):Prop where
 cell:H5 r.sign=0
 wide:r.sign.wide≠2
 many:1≤r.many∧r.many≤100
theorem C6a {s t:Sty} (ht:E9 t=0):R0 (stp s t):=D3c ht
theorem D6m {s:Sty} {r:Prn} (hr:RunOk r):R0 (cP s r).1:=by
 rw [D6p];exact R0.app.2 ⟨C6a (B9p hr.cell),D8z (C4o hr.cell hr.wide)⟩
theorem D6k {s:Sty} {r:Prn} (hr:RunOk r):R0 (cR s r).1:=by
 have hm:=hr.many
 rcases E5a s r with e | ⟨h2,e⟩
 ·rw [e];intro a h;cases h
 ·rw [e]
  exact R0.app.2 ⟨R0.app.2 ⟨C6a (B9p hr.cell),C4o hr.cell hr.wide⟩,B8f (D7z (by rw [wr6 (by omega)];omega))⟩
theorem D6c {s:Sty} {r:Prn} {last:Bool} (hs:E9 s=0) (hr:RunOk r):R0 (cB s r last).1:=by
 have hm:=hr.many
 have hb:=C6a (s:=s) (D1e hs (B9p hr.cell))
 rcases D6i s r last with e | ⟨l,hl,a,e⟩
 ·rw [e];intro a h;cases h
 ·rw [e]
  rcases hl with rfl | rfl
  ·exact R0.app.2 ⟨hb,B8f (C1v (by omega))⟩
  ·exact R0.app.2 ⟨R0.app.2 ⟨hb,B8f (C1v (by omega))⟩,B8f (D3p (by omega))⟩
theorem E1p {l:List Act} (h:R0 l):∀ a ∈ l,D4i a.m:=fun a ha=>E3j (h a ha)
theorem C3v (q:C4n) (c:C9t) (P:List Act→Prop) (hq:P q.2.1) (hc:P c.1):P (sel q c).2.1:=by
 unfold sel;cases bad q.1 c with
 | true=>exact hq
 | false=>exact hc
theorem D3j {s:Sty} {r:Prn} {last:Bool} (hs:E9 s=0) (hr:RunOk r):R0 (A6z s r last).2.1 :=
 C3v _ _ _ (C3v _ _ _ (C3v _ _ _ (fun a h=>by cases h) (D6m hr)) (D6k hr)) (D6c hs hr)
theorem D2q {c1:Int} {c2:List Cel}:∀ (fu:Nat) (r:Prn),r.many≤(ext c1 c2 fu r).many
 | 0,r=>Int.le_refl _
 | fu+1,r=>by
  rw [ext]
  by_cases c:r.til<c1∧c2.getD r.til.toNat Cel.zero=r.sign
  ·rw [if_pos c]
   exact Int.le_trans (by show r.many≤r.many+1;omega) (D2q fu _)
  ·rw [if_neg c];exact Int.le_refl _
theorem D9x {x:List Cel} (hv:RowV x) {c1 t:Int} (hc:c1≤x.length) (h0:0≤t) (h:t<c1) (ha:AtC x t):RunOk (A7e c1 x t):=by
 have hlt:t.toNat<x.length:=by omega
 have hg:=B5x (hv.runB hc) h0 h
 have hm:=D7t hv hc h0 (A7e c1 x t) (by rw [B7j (hv.runB hc) h0 h];exact List.mem_cons_self ..)
 refine ⟨?_,?_,?_,hm.2⟩
 ·rw [hg.2.2,gdE hlt];exact hv.ok _ (List.getElem_mem hlt)
 ·rw [hg.2.2];exact ha (by omega)
 ·unfold A7e
  rw [ext,if_pos (show (B5c x t).til<c1∧x.getD (B5c x t).til.toNat Cel.zero=(B5c x t).sign from ⟨h,rfl⟩)]
  exact Int.le_trans (by show (1:Int)≤0+1;omega) (D2q _ _)
theorem D7a {x:List Cel} (hv:RowV x) {c1 t:Int} (hc:c1≤x.length) (h0:0≤t) (h:t<c1) (ha:AtC x t):AtC x (A7e c1 x t).til :=
 E0p hv hc _ _ h0 ha (ha (by omega))
theorem C7o {x:List Cel} (hv:RowV x) {c1:Int} (hc:c1≤x.length):∀ (k:Nat) (t:Int) (s:Sty) (a m:Int),(c1 - t).toNat≤k→0≤t→AtC x t→E9 s=0→R0 (J5 m (C1o c1 x t) s [] a).1:=by
 intro k
 induction k with
 | zero =>
  intro t s a m hn h0 ha hs
  rw [B3g (by omega)];intro y hy;cases hy
 | succ k ih =>
  intro t s a m hn h0 ha hs
  by_cases ht:t<c1
  ·have hg:=B5x (hv.runB hc) h0 ht
   have hr:=D9x hv hc h0 ht ha
   rw [B7j (hv.runB hc) h0 ht,B9q,C9c]
   exact R0.app.2 ⟨D3j hs hr,ih _ _ _ _ (by omega) (by omega) (D7a hv hc h0 ht ha) (D9y hs (B9p hr.cell))⟩
  ·rw [B3g ht];intro y hy;cases hy
end Go.Proofs.YtanighkpfmgnbaaGreatDoor
set_option linter.unusedVariables false
set_option linter.unusedSimpArgs false
set_option maxRecDepth 10000
namespace Go.Proofs.YtanighkpfmgnbaaGreatDoor
open Go Go.Fen
theorem E1t (s:Sty):stp s s=[]:=by
 unfold stp A0x B7
 simp only [decide_true,Bool.or_true,cond_true]
structure Best (s:Sty) (n:Nat) (q:C4n):Prop where
 good:R0 q.2.1
 small:q.2.1.length≤322
 cost:q.1=((enc q.2.1).length:Int)
 le:(enc q.2.1).length≤n
 sty:q.2.2.1=s
theorem C2z {l:List Act} (hl:l.length≤322) (hg:R0 l):L5 l=(enc l,0):=B7e (by omega) (E1p hg) hg
theorem D0l {q:C4n} {c:C9t} {s:Sty} {n:Nat} (h:Best s n q) (hg:R0 c.1) (hl:c.1.length≤322) (hs:c.2.2.2=true→c.2.1=s):Best s n (sel q c):=by
 unfold sel
 cases hb:bad q.1 c with
 | true=>exact h
 | false =>
  unfold bad at hb
  rw [C2z hl hg] at hb
  simp only [Bool.or_eq_false_iff,Bool.not_eq_false',Bool.and_eq_false_iff,decide_eq_true_eq,decide_eq_false_iff_not] at hb
  have h1:=h.cost
  have h2:=h.le
  rw [cond_false,C2z hl hg]
  exact ⟨hg,hl,rfl,by show (enc c.1).length≤n;omega,hs hb.1.1⟩
theorem D4u {s:Sty} {r:Prn} {last:Bool} (hs:E9 s=0) (hr:RunOk r) (e:r.sign.sty=s):Best s (enc (cP s r).1).length (A6z s r last):=by
 have hm:=hr.many
 unfold A6z
 refine D0l (D0l ?_ (D6k hr) (V2 s [] 0 r false).1 ?_) (D6c hs hr) (W2 s [] 0 r last).1 ?_
 ·have hl:=(W1 s [] 0 r false (by omega)).1
  have hg:=D6m (s:=s) hr
  have hl':(cP s r).1.length≤322:=hl
  have hb:bad A8x.1 (cP s r)=false:=by
   show bad (-1) (cP s r)=false
   rw [D7l,C2z hl' hg,D6p];rfl
  unfold sel
  rw [hb,cond_false,C2z hl' hg]
  exact ⟨hg,hl',rfl,Nat.le_refl _,by show (cP s r).2.1=s;rw [D6p];exact e⟩
 ·intro hmay
  rcases E5a s r with q | ⟨_,q⟩
  ·rw [q] at hmay;cases hmay
  ·rw [q];exact e
 ·intro hmay
  rcases D6i s r last with q | ⟨l,_,a,q⟩
  ·rw [q] at hmay;cases hmay
  ·rw [q]
   show ({s with back:=r.sign.sty.back}:Sty)=s
   rw [e]
def C8x (l:List Act):Nat:=(l.map fun a=>(A4r a).length).sum
theorem D9j (l m:List Act):C8x (l++m)=C8x l+C8x m:=by unfold C8x;rw [List.map_append,List.sum_append]
theorem C4s:∀ (l:List Act),(∀ a ∈ l,a.kind≠39)→(enc l).length=C8x l
 | [],_=>rfl
 | a::l,h=>by
  rw [C9i (B8w (h a (List.mem_cons_self ..))),List.length_append,C4s l (fun b hb=>h b (List.mem_cons_of_mem _ hb))]
  unfold C8x;rw [List.map_cons,List.sum_cons]
theorem C4k (m:Ar2):∀ a ∈ B0k m,a.kind≠39:=by
 intro a ha
 unfold B0k at ha
 have h1:∀ (n:Int),(ch n).kind≠39:=fun n=>by show (1:Int)≠39;decide
 rcases List.mem_append.1 ha with ha | ha
 ·by_cases h:m.a=0
  ·rw [if_pos h] at ha;cases ha
  ·rw [if_neg h] at ha;rw [List.mem_singleton.1 ha];exact h1 _
 ·by_cases h:m.b=0
  ·rw [if_pos h] at ha;cases ha
  ·rw [if_neg h] at ha;rw [List.mem_singleton.1 ha];exact h1 _
theorem E0g (c:Cel):∀ a ∈ sgn c,a.kind≠39:=by
 intro a ha
 rcases List.mem_cons.1 ha with rfl | ha
 ·show (1:Int)≠39;decide
 ·exact C4k _ a ha
theorem E3a {l m:List Act} (h:R0 (l++m)):(enc (l++m)).length≤(enc l).length+(enc m).length:=by
 have:=E6h h l.length
 rwa [List.take_left,List.drop_left] at this
def A0s (l:List Cel):List Act:=l.flatMap B3w
theorem D4j (l:List Cel):∀ a ∈ A0s l,a.kind≠39:=by
 intro a ha
 obtain ⟨c,_,h⟩:=List.mem_flatMap.1 ha
 unfold B3w at h
 rcases List.mem_append.1 h with h | h
 ·split at h
  ·cases h
  ·rw [List.mem_singleton.1 h];show (1:Int)≠39;decide
 ·exact C4k _ a h
theorem D3u {l:List Cel} (h:∀ c ∈ l,H5 c=0):R0 (A0s l):=by
 intro a ha
 obtain ⟨c,hc,hm⟩:=List.mem_flatMap.1 ha
 by_cases w:c.wide=2
 ·rw [C3r (h c hc) w] at hm;cases hm
 ·rw [C8c w] at hm;exact C4o (h c hc) w a hm
theorem D8r (l:List Cel):(A0s l).length≤3 * l.length:=by
 induction l with
 | nil=>exact Nat.zero_le _
 | cons c l ih =>
  have e:A0s (c::l)=B3w c++A0s l:=rfl
  have hc:(B3w c).length≤3:=by
   unfold B3w B0k
   simp only [List.length_append]
   repeat' split
   all_goals simp
  rw [e,List.length_append,List.length_cons];omega
theorem C4e {x:List Cel} {t:Nat} (h:t<x.length):A0s (x.drop t)=B3w (x.getD t Cel.zero)++A0s (x.drop (t+1)):=by
 rw [List.drop_eq_getElem_cons h,gdE h];rfl
theorem C6z {x:List Cel} (hv:RowV x):∀ (fu:Nat) (r:Prn),0≤r.til→AtC x r.til→r.sign.wide≠2→0≤r.many →
  rep r.many.toNat (sgn r.sign)++A0s (x.drop r.til.toNat)=rep (ext x.length x fu r).many.toNat (sgn r.sign)++A0s (x.drop (ext x.length x fu r).til.toNat)
 | 0,r,_,_,_,_=>rfl
 | fu+1,r,h0,ha,h2,hm=>by
  rw [ext]
  by_cases c:r.til<(x.length:Int)∧x.getD r.til.toNat Cel.zero=r.sign
  ·rw [if_pos c]
   have hlt:r.til.toNat<x.length:=by omega
   have hs:=D5w hv h0 c.1 (by rw [c.2];exact h2)
   rw [c.2] at hs
   have ih:=C6z hv fu {r with many:=r.many+1,til:=r.til+(1+r.sign.wide)} (by show 0≤r.til+(1+r.sign.wide);omega) hs.2.2.1 h2 (by show 0≤r.many+1;omega)
   refine Eq.trans ?_ ih
   show _=rep (r.many+1).toNat (sgn r.sign)++A0s (x.drop (r.til+(1+r.sign.wide)).toNat)
   rw [show (r.many+1).toNat=r.many.toNat+1 by omega,E0z,List.append_assoc,C4e hlt,c.2,C8c h2]
   by_cases w1:r.sign.wide=1
   ·obtain ⟨g1,g2⟩:=hs.2.2.2 w1
    have hlt2:r.til.toNat+1<x.length:=by omega
    rw [show (r.til+1).toNat=r.til.toNat+1 by omega] at g2
    have hk:=hv.ok _ (List.getElem_mem hlt2)
    rw [← gdE (d:=Cel.zero) hlt2] at hk
    rw [C4e hlt2,C3r hk g2,List.nil_append,w1,show (r.til+(1+1)).toNat=r.til.toNat+1+1 by omega]
   ·rw [show (r.til+(1+r.sign.wide)).toNat=r.til.toNat+1 by omega]
  ·rw [if_neg c]
theorem D8q {x:List Cel} (hv:RowV x) {t:Int} (h0:0≤t) (ht:t<x.length) (ha:AtC x t):A0s (x.drop t.toNat)=rep (A7e x.length x t).many.toNat (sgn (A7e x.length x t).sign)++A0s (x.drop (A7e x.length x t).til.toNat):=by
 have h:=C6z hv (((x.length:Int) - t).toNat+1) (B5c x t) h0 ha (ha ht) (Int.le_refl 0)
 have hg:=B5x (hv.runB (Int.le_refl _)) h0 ht
 rw [hg.2.2]
 exact h
theorem E0v {x:List Cel} (hv:RowV x) {s:Sty} (hs:E9 s=0) (hall:∀ c ∈ x,c.sty=s):∀ (k:Nat) (t:Int) (a m:Int),((x.length:Int) - t).toNat≤k→0≤t→AtC x t→(enc (J5 m (C1o x.length x t) s [] a).1).length≤C8x (A0s (x.drop t.toNat)):=by
 intro k
 induction k with
 | zero =>
  intro t a m hn h0 ha
  rw [B3g (by omega)];exact Nat.zero_le _
 | succ k ih =>
  intro t a m hn h0 ha
  by_cases ht:t<x.length
  ·have hb:=hv.runB (Int.le_refl (x.length:Int))
   have hg:=B5x hb h0 ht
   have hr:=D9x hv (Int.le_refl _) h0 ht ha
   have hlt:t.toNat<x.length:=by omega
   have hst:(A7e x.length x t).sign.sty=s:=by rw [hg.2.2,gdE hlt];exact hall _ (List.getElem_mem hlt)
   have hB:=D4u (last:=decide ((A7e x.length x t).til=m)) hs hr hst
   have hat:=D7a hv (Int.le_refl _) h0 ht ha
   rw [B7j hb h0 ht,B9q,C9c,hB.sty]
   have hgd:=C7o hv (Int.le_refl _) _ (A7e x.length x t).til s (A6z s (A7e x.length x t) (decide ((A7e x.length x t).til=m))).2.2.2 m (Nat.le_refl _) (by omega) hat hs
   refine Nat.le_trans (E3a (R0.app.2 ⟨hB.good,hgd⟩)) ?_
   have i1:=ih (A7e x.length x t).til (A6z s (A7e x.length x t) (decide ((A7e x.length x t).til=m))).2.2.2 m (by omega) (by omega) hat
   have e1:(enc (cP s (A7e x.length x t)).1).length=C8x (rep (A7e x.length x t).many.toNat (sgn (A7e x.length x t).sign)):=by
    rw [D6p,hst,E1t,List.nil_append]
    exact C4s _ (fun y hy=>E0g _ y (D5u hy))
   have i2:=hB.le
   rw [D8q hv h0 ht ha,D9j]
   rw [e1] at i2
   exact Nat.add_le_add i2 i1
  ·rw [B3g ht];exact Nat.zero_le _
theorem C5u (x:List Cel) (rb:List UInt8×Int):∀ (l:List Cel) (p:List Act) (t:Nat),l=x.drop t→K9 x rb l p t=((decide ((L5 (p++A0s l)).2=0))&&(decide ((rb.1.length:Int)≤((L5 (p++A0s l)).1.length:Int))))
 | [],p,t,_=>by
  rw [show A0s []=[] from rfl,List.append_nil];rfl
 | c::l,p,t,h=>by
  have ht:t<x.length:=by
   rcases Nat.lt_or_ge t x.length with h1 | h1
   ·exact h1
   ·rw [List.drop_eq_nil_of_le h1] at h;cases h
  rw [List.drop_eq_getElem_cons ht] at h
  injection h with h1 h2
  have hg:x.getD t Cel.zero=c:=by rw [gdE ht];exact h1.symm
  have hj:∀ q:List Act,V3 x t (K9 x rb l) q=K9 x rb l (q++B0k c.marks) (t+1):=fun q=>by
   unfold V3 B0k
   rw [hg]
   by_cases a0:c.marks.a=0
   ·by_cases b0:c.marks.b=0
    ·rw [decide_eq_true a0,decide_eq_true b0,if_pos a0,if_pos b0,List.nil_append,List.append_nil];rfl
    ·rw [decide_eq_true a0,decide_eq_false b0,if_pos a0,if_neg b0];rfl
   ·by_cases b0:c.marks.b=0
    ·rw [decide_eq_false a0,decide_eq_true b0,if_neg a0,if_pos b0,List.append_nil];rfl
    ·rw [decide_eq_false a0,decide_eq_false b0,if_neg a0,if_neg b0,← List.append_assoc];rfl
  have e:A0s (c::l)=B3w c++A0s l:=rfl
  rw [K9,hj,hj,C5u x rb l _ (t+1) h2,C5u x rb l _ (t+1) h2,e]
  unfold B3w
  by_cases w:c.wide=2
  ·rw [decide_eq_true w,if_pos w,Bool.not_true,cond_false,List.nil_append,List.append_assoc]
  ·rw [decide_eq_false w,if_neg w,Bool.not_false,cond_true]
   simp only [List.append_assoc];rfl
theorem D2p (fc:List Cel):∀ (l:List Cel) (t:Nat),¬ (0:Int)≤G0 fc l t→∀ c ∈ l,c.sty=(fc.getD 0 Cel.zero).sty
 | [],t,_=>fun c hc=>by cases hc
 | x::l,t,h=>by
  rw [G0] at h
  cases hb:A0n x fc with
  | true=>rw [hb,cond_true] at h;exact absurd (Int.natCast_nonneg t) h
  | false =>
   rw [hb,cond_false] at h
   intro c hc
   rcases List.mem_cons.1 hc with rfl | hc
   ·unfold A0n at hb
    simpa using hb
   ·exact D2p fc l (t+1) h c hc
theorem C5o (x:List Cel) (pen:Sty):A4s x pen=true:=by
 unfold A4s
 rw [C8u]
 simp only [B7,Bool.not_true,cond_false]
 by_cases h1:(N7 x 0 (x.length:Int) pen).2.2.2=0
 ·rw [decide_eq_true h1,Bool.not_true,cond_false]
  have hk:=E2g h1
  have hv:=hk.row
  have hg:R0 (N7 x 0 (x.length:Int) pen).1:=by
   rw [hk.is];exact C7o hv (Int.le_refl _) _ 0 pen _ _ (Nat.le_refl _) (Int.le_refl 0) hk.f2 hk.sty
  have hln:=(A5d x 0 (x.length:Int) pen).2.1
  have hB:=B7e (l:=(N7 x 0 (x.length:Int) pen).1) (by omega) (E1p hg) hg
  rw [hB,decide_eq_true (rfl:(0:Int)=0),Bool.not_true,cond_false]
  cases hc:I0 x x with
  | true=>rfl
  | false =>
   rw [cond_false]
   by_cases hp:pen=(x.getD 0 Cel.zero).sty
   ·rw [decide_eq_true hp,Bool.not_true,cond_false]
    unfold I0 M4 at hc
    have hall:=D2p x x 0 (of_decide_eq_false hc)
    rw [← hp] at hall
    rw [C5u x _ x [] 0 rfl,List.nil_append]
    have hpg:=D3u hv.ok
    have hpl:=D8r x
    have l8:=hv.len
    rw [B7e (by omega) (E1p hpg) hpg]
    have hfin:=E0v hv hk.sty hall _ 0 (x.length:Int) (x.length:Int) (Nat.le_refl _) (Int.le_refl 0) hk.f2
    rw [← hk.is] at hfin
    have e2:(enc (A0s x)).length=C8x (A0s x):=C4s _ (D4j x)
    have e3:A0s (x.drop (0:Int).toNat)=A0s x:=rfl
    rw [e3,← e2] at hfin
    show (decide ((0:Int)=0)&&decide (((enc (N7 x 0 (x.length:Int) pen).1).length:Int)≤((enc (A0s x)).length:Int)))=true
    rw [decide_eq_true (rfl:(0:Int)=0),decide_eq_true (by omega)];rfl
   ·rw [decide_eq_false hp];rfl
 ·rw [decide_eq_false h1,Bool.not_false,cond_true,E1i h1];rfl
end Go.Proofs.YtanighkpfmgnbaaGreatDoor
