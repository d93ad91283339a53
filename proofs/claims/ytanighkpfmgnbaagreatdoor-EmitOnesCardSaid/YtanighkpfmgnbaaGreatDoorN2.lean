import Derived.Test.YtanighkpfmgnbaaGreatDoorN1
import Derived.Test.YtanighkpfmgnbaaGreatDoorB5
set_option linter.unusedVariables false
set_option linter.unusedSimpArgs false
set_option linter.unnecessarySimpa false
set_option maxRecDepth 10000
namespace Go.Proofs.YtanighkpfmgnbaaGreatDoor
open Go Go.Fen
theorem B7h {α:Type} (a w:Act) (f:Unit→Option α):Option.bind (A6y a w) f=bif decide (a=w) then f () else none:=by
 unfold A6y Y2
 cases decide (a=w)<;>rfl
theorem B2a {α:Type} (b:Bool) (f:Unit→Option α):Option.bind (Y2 b) f=bif b then f () else none:=by
 unfold Y2;cases b<;>rfl
theorem D1k {α:Type} (t:List UInt8) (x:α):Option.bind (A6o t) (fun _=>some x)=bif W3 t then some x else none:=by
 rw [← D2m];cases A6o t<;>rfl
theorem E1c (n m:Int) (c:Col) (t:List UInt8):A0q n m c t=I8 ⟨44,n,m,c,t⟩:=by
 unfold A0q W4 A5o
 rw [B2a,cond_true,B7h,D1k]
 have hB:decide ((⟨44,n,m,c,t⟩:Act)={Act.zero with kind:=45,n:=n,color:=c})=false:=decide_eq_false (fun h=>by injection h with h;exact absurd h (by decide))
 have hC:decide ((⟨44,n,m,c,t⟩:Act)={Act.zero with kind:=46,text:=t})=false:=decide_eq_false (fun h=>by injection h with h;exact absurd h (by decide))
 unfold I8
 simp only [hB,hC,Bool.false_and,cond_false]
 cases decide ((⟨44,n,m,c,t⟩:Act)={Act.zero with kind:=44,text:=t})<;>cases W3 t<;>rfl
theorem E1d (n m:Int) (c:Col) (t:List UInt8):Y8 n m c t=I8 ⟨45,n,m,c,t⟩:=by
 unfold Y8 S8 A5p
 rw [B2a,cond_true,B7h]
 have hA:decide ((⟨45,n,m,c,t⟩:Act)={Act.zero with kind:=44,text:=t})=false:=decide_eq_false (fun h=>by injection h with h;exact absurd h (by decide))
 have hC:decide ((⟨45,n,m,c,t⟩:Act)={Act.zero with kind:=46,text:=t})=false:=decide_eq_false (fun h=>by injection h with h;exact absurd h (by decide))
 unfold I8 C0
 simp only [hA,hC,Bool.false_and,cond_false]
 cases decide ((⟨45,n,m,c,t⟩:Act)={Act.zero with kind:=45,n:=n,color:=c}) with
 | false=>rfl
 | true =>
  simp only [B2a,cond_true,Bool.true_and]
  by_cases hk:c.kind=2
  ·by_cases h0:(0:Int)≤n
   ·rw [decide_eq_true hk,decide_eq_true h0,C3x h0]
    rcases C8u hk with e | ⟨e1,e2⟩
    ·rw [e]
     cases decide ((A0l c).2=0)<;>cases decide (n≤255)<;>rfl
    ·rw [decide_eq_false e1,decide_eq_false e2]
     cases decide (n≤255)<;>rfl
   ·rw [decide_eq_false h0]
    cases decide ((X6 c).2=0)<;>cases decide (c.kind=2)<;>rfl
  ·rw [decide_eq_false hk]
   cases decide ((X6 c).2=0)<;>cases decide ((0:Int)≤n)<;>cases decide (n≤255)<;>rfl
theorem E0y (n m:Int) (c:Col) (t:List UInt8):Y7 n m c t=I8 ⟨46,n,m,c,t⟩:=by
 unfold Y7 S7 A5n
 rw [B2a,cond_true,B7h]
 have hA:decide ((⟨46,n,m,c,t⟩:Act)={Act.zero with kind:=44,text:=t})=false:=decide_eq_false (fun h=>by injection h with h;exact absurd h (by decide))
 have hB:decide ((⟨46,n,m,c,t⟩:Act)={Act.zero with kind:=45,n:=n,color:=c})=false:=decide_eq_false (fun h=>by injection h with h;exact absurd h (by decide))
 unfold I8 C0
 simp only [hA,hB,Bool.false_and,cond_false]
 cases decide ((⟨46,n,m,c,t⟩:Act)={Act.zero with kind:=46,text:=t}) with
 | false=>rfl
 | true =>
  simp only [B2a,cond_true,Bool.true_and]
  by_cases h:(t.length:Int)≤378
  ·have h2:(X8 t).2=0:=by rw [C5t (by omega)]
   rw [decide_eq_true h,decide_eq_true h2,E3o (by omega)]
   rfl
  ·rw [decide_eq_false h];rfl
theorem D4y (a:Act):M1 a=0∨M1 a=200:=by
 unfold M1 C0
 simp only [Bool.cond_eq_ite]
 repeat' split
 all_goals first|exact .inl rfl|exact .inr rfl
def B0j (n:Int):Prop:=-9223372036854775808≤n∧n≤9223372036854775807
theorem D4k {c:Bool}:(bif c then (200:Int) else 0)=0 ↔ c=false:=by cases c<;>decide
theorem B7r {c:Bool}:(bif !c then (200:Int) else 0)=0 ↔ c=true:=by cases c<;>decide
def C8l:List Int:=[17,18,19,20,26,27,35,38,40,41,2,3,4,5,6,8,9,10,11,12,13,15,16,7,14,42,21,33,22,23,24,25,28,29,30,31,32,34,36,37,43]
theorem D4u (k:Int):H8 k C2=C8l.contains k:=by rw [B2g];rfl
theorem D1b (lo hi n:Int):A8 ({Spn.zero with lo:=lo,hi:=hi}) n=(decide (lo≤n)&&decide (n≤hi)):=rfl
theorem D9b (n lo hi:Int):F8 n lo hi=(decide (lo≤n)&&decide (n≤hi)):=by unfold F8;rfl
theorem D5l (n:Int):(decide ((0:Int)≤n)&&decide (n≤0))=decide (n=0):=by
 by_cases h:n=0
 ·subst h;rfl
 ·rw [decide_eq_false h,Bool.and_eq_false_iff,decide_eq_false_iff_not,decide_eq_false_iff_not];omega
theorem D4g {a:Act} (hk:a.kind≠1) (h:C8l.contains a.kind=true):(F2 a.kind a.n&&F7 a.kind a.m)=N2 a:=by
 obtain ⟨k,n,m,c,t⟩:=a
 simp only [C8l,List.contains_cons,List.contains_nil,Bool.or_false,Bool.or_eq_true,beq_iff_eq] at h
 unfold N2 H2 V1 X4 J3 U6 K3
 rcases h with h | h | h | h | h | h | h | h | h | h | h | h | h | h | h | h | h | h | h | h | h | h | h | h | h | h | h | h | h | h | h | h | h | h | h | h | h | h | h | h | h<;>subst h <;>
  simp only [F2,F7,Int.reduceEq,decide_true,decide_false,cond_true,cond_false,D1b,D9b,D5l,A0a]
theorem D2t {a:Act} (h1:a.kind≠1) (h39:a.kind≠39) (h44:a.kind≠44) (h45:a.kind≠45) (h46:a.kind≠46) (h:C8l.contains a.kind=false):N2 a=false:=by
 simp only [C8l,List.contains_cons,List.contains_nil,Bool.or_false,Bool.or_eq_false_iff,beq_eq_false_iff_ne,ne_eq] at h
 unfold N2 H2 V1 X4 J3 U6
 simp only [h,h1,decide_false,cond_false]
theorem C0j {a:Act} (hm:B0j a.m):M1 a=0 ↔ F1 a=true:=by
 unfold M1 F1 R8 C0
 by_cases h39:a.kind=39
 ·have e:(⟨39,a.n,a.m,a.color,a.text⟩:Act)=a:=by rw [← h39]
  rw [e,h39]
  show (bif (!decide (I6 a=0)) then (200:Int) else 0)=0 ↔ decide (L6 a=0)=true
  rw [B7r,decide_eq_true_iff,decide_eq_true_iff];exact E0n hm.1 hm.2
 rw [decide_eq_false h39,cond_false,cond_false]
 by_cases h44:a.kind=44
 ·have e:I8 a=A0q a.n a.m a.color a.text:=by rw [E1c,← h44]
  rw [e,h44]
  show (bif (!decide ((A0q a.n a.m a.color a.text).2=0)) then (200:Int) else 0)=0 ↔ decide ((A0q a.n a.m a.color a.text).2=0)=true
  rw [B7r,decide_eq_true_iff]
 by_cases h45:a.kind=45
 ·have e:I8 a=Y8 a.n a.m a.color a.text:=by rw [E1d,← h45]
  rw [e,h45]
  show (bif (!decide ((Y8 a.n a.m a.color a.text).2=0)) then (200:Int) else 0)=0 ↔ decide ((Y8 a.n a.m a.color a.text).2=0)=true
  rw [B7r,decide_eq_true_iff]
 by_cases h46:a.kind=46
 ·have e:I8 a=Y7 a.n a.m a.color a.text:=by rw [E0y,← h46]
  rw [e,h46]
  show (bif (!decide ((Y7 a.n a.m a.color a.text).2=0)) then (200:Int) else 0)=0 ↔ decide ((Y7 a.n a.m a.color a.text).2=0)=true
  rw [B7r,decide_eq_true_iff]
 simp only [h44,h45,h46,decide_false,cond_false]
 by_cases h1:a.kind=1
 ·rw [decide_eq_true h1,cond_true,D4k]
  have en:N2 a=((decide ((0:Int)≤(A7w a.n)))&&(decide (a.m=0))):=by unfold N2;rw [decide_eq_true h1,cond_true]
  rw [en,D8x]
  have ea:decide ((⟨1,a.n,a.m,a.color,a.text⟩:Act)=A2w a.kind a.n 0)=(decide (a.m=0)&&decide (a.color=Col.zero)&&decide (a.text=[])):=by
   rw [h1,show A2w 1 a.n 0=⟨1,a.n,0,Col.zero,[]⟩ from rfl]
   rw [Bool.eq_iff_iff]
   simp only [decide_eq_true_eq,Bool.and_eq_true,Act.mk.injEq,true_and]
   exact and_assoc.symm
  rw [ea]
  simp only [Bool.or_eq_false_iff,decide_eq_false_iff_not,Bool.not_eq_false',Bool.and_eq_true,decide_eq_true_eq,and_assoc,Int.not_lt]
 ·rw [decide_eq_false h1,cond_false,D4k,D4u]
  cases hN:C8l.contains a.kind with
  | false=>rw [D2t h1 h39 h44 h45 h46 hN];simp
  | true =>
   rw [← D4g h1 hN]
   simp only [Bool.or_eq_false_iff,Bool.not_eq_false',Bool.and_eq_true,decide_eq_true_eq,Bool.not_true,true_and,and_assoc]
theorem E0t {a:Act} (h:F1 a=true) (h1:a.kind≠1) (h39:a.kind≠39) (h44:a.kind≠44) (h45:a.kind≠45) (h46:a.kind≠46):C8l.contains a.kind=true∧N2 a=true:=by
 unfold F1 R8 at h
 rw [decide_eq_false h39,decide_eq_false h44,decide_eq_false h45,decide_eq_false h46] at h
 simp only [cond_false,Bool.and_eq_true] at h
 refine ⟨?_,h.1.1⟩
 cases hN:C8l.contains a.kind with
 | true=>rfl
 | false=>rw [D2t h1 h39 h44 h45 h46 hN] at h;exact absurd h.1.1 (by decide)
theorem E5j (n:Int) (hn:0≤n∧n≤9999):P4 (-2) [n]=D9 (n.toNat+1) n:=by
 rw [D4h (-2) hn,if_neg (by omega),C3x hn.1]
theorem D6x (k n:Int) (hn:0≤n∧n≤9999):P4 k [n]=N1 n k:=by rw [D4h k hn,C8j k hn.1]
theorem E0v (k n m:Int) (hn:0≤n∧n≤9999) (hm:0≤m∧m≤9999):P4 k [n,m]=A1o n m k:=by rw [E0o k hn hm,E1k k hn.1 hm.1]
theorem D8p {a:Act} (h:a.kind=39):A0d a=A1h [a]:=by
 unfold A0d C0;rw [h];rfl
theorem B9c {a:Act} (hk:a.kind=39) (h:F1 a=true):Told a:=by
 unfold F1 at h
 rw [decide_eq_true hk,cond_true,decide_eq_true_iff] at h
 exact B5s (D6q h)
set_option maxHeartbeats 4000000 in
theorem D7d {a:Act} (h:F1 a=true):A2m a=A0d a:=by
 by_cases h1:a.kind=1
 ·obtain ⟨k,n,m,c,t⟩:=a;dsimp only at h1;subst h1;exact D6c n
 by_cases h39:a.kind=39
 ·have hT:=B9c h39 h
  rw [D8p h39,C9n (Nat.le_of_ble_eq_true rfl) (fun x hx=>by rw [List.mem_singleton.1 hx];exact hT),← D4m (l:=[a]) (Nat.le_of_ble_eq_true rfl) (fun x hx=>by rw [List.mem_singleton.1 hx];exact hT)]
  obtain ⟨k,n,m,c,t⟩:=a;dsimp only at h39;subst h39;rfl
 by_cases h44:a.kind=44
 ·obtain ⟨k,n,m,c,t⟩:=a;dsimp only at h44;subst h44
  show ([27,93]++(A0q n m c t).1)++[27,92]=(([27,93]++(I8 ⟨44,n,m,c,t⟩).1)++[27])++[92]
  rw [E1c,List.append_assoc _ [27] [92]];rfl
 by_cases h45:a.kind=45
 ·obtain ⟨k,n,m,c,t⟩:=a;dsimp only at h45;subst h45
  show ([27,93]++(Y8 n m c t).1)++[27,92]=(([27,93]++(I8 ⟨45,n,m,c,t⟩).1)++[27])++[92]
  rw [E1d,List.append_assoc _ [27] [92]];rfl
 by_cases h46:a.kind=46
 ·obtain ⟨k,n,m,c,t⟩:=a;dsimp only at h46;subst h46
  show ([27,93]++(Y7 n m c t).1)++[27,92]=(([27,93]++(I8 ⟨46,n,m,c,t⟩).1)++[27])++[92]
  rw [E0y,List.append_assoc _ [27] [92]];rfl
 obtain ⟨hN,hn⟩:=E0t h h1 h39 h44 h45 h46
 rw [← D4g h1 hN] at hn
 clear h h1 h39 h44 h45 h46
 obtain ⟨k,n,m,c,t⟩:=a
 simp only [C8l,List.contains_cons,List.contains_nil,Bool.or_false,Bool.or_eq_true,beq_iff_eq] at hN
 have q1:=D6x 1 n
 have q0:=D6x 0 n
 have qm:=D6x 1 m
 have qd:=E5j n
 have t1:=E0v 1 n m
 have t0:=E0v 0 n m
 rcases hN with h | h | h | h | h | h | h | h | h | h | h | h | h | h | h | h | h | h | h | h | h | h | h | h | h | h | h | h | h | h | h | h | h | h | h | h | h | h | h | h | h<;>subst h <;>
  simp only [F2,F7,Int.reduceEq,decide_true,decide_false,cond_true,cond_false,D1b,A0a,Bool.and_eq_true,Bool.or_eq_true,decide_eq_true_eq] at hn
 all_goals first
  | rfl
  | (show ([27,91]++P4 1 [n])++_=[27,91]++(N1 n 1++_);rw [q1 (by omega)];exact List.append_assoc ..)
  | (show ([27,91]++P4 0 [n])++_=[27,91]++(N1 n 0++_);rw [q0 (by omega)];exact List.append_assoc ..)
  | (show ([27,91]++P4 1 [m])++_=[27,91]++(N1 m 1++_);rw [qm (by omega)];exact List.append_assoc ..)
  | (show ([27,91]++P4 1 [n,m])++_=[27,91]++(A1o n m 1++_);rw [t1 (by omega) (by omega)];exact List.append_assoc ..)
  | (show ([27,91]++P4 0 [n,m])++_=[27,91]++(A1o n m 0++_);rw [t0 (by omega) (by omega)];exact List.append_assoc ..)
  | (show ([27,91]++P4 (-2) [n])++_=[27,91]++(D9 (n.toNat+1) n++_);rw [qd (by omega)];exact List.append_assoc ..)
  | (obtain e | e:n=0∨n=1:=by omega)<;>subst e<;>rfl
  | (obtain e | e:n=2∨n=3:=by omega)<;>subst e<;>rfl
  | (show (([27,91]++[63])++P4 (-2) [n])++_=[27,91]++(([63]++D9 (n.toNat+1) n)++_);rw [qd (by omega)];simp only [List.append_assoc];rfl)
  | (obtain e | e:m=0∨m=1:=by omega)<;>subst e<;>(show (([27,91]++_)++P4 (-2) [n])++_=[27,91]++((_++D9 (n.toNat+1) n)++_);rw [qd (by omega)];simp only [List.append_assoc];rfl)
end Go.Proofs.YtanighkpfmgnbaaGreatDoor
set_option linter.unusedVariables false
set_option linter.unusedSimpArgs false
set_option linter.unnecessarySimpa false
set_option maxRecDepth 10000
namespace Go.Proofs.YtanighkpfmgnbaaGreatDoor
open Go Go.Fen
def A4f:Nat→List Act→Nat
 | 0,_=>0
 | _+1,[]=>0
 | k+1,a::r=>if a.kind=39 then A4f k r+1 else 0
theorem C7n:∀ (k:Nat) (l:List Act),A4f k l≤k∧A4f k l≤l.length
 | 0,l=>⟨Nat.le_refl _,Nat.zero_le _⟩
 | k+1,[]=>⟨Nat.zero_le _,Nat.le_refl _⟩
 | k+1,a::r=>by
  have:=C7n k r
  unfold A4f
  split
  ·simp only [List.length_cons];omega
  ·exact ⟨Nat.zero_le _,Nat.zero_le _⟩
theorem D0p:∀ (k:Nat) (l:List Act),∀ x ∈ l.take (A4f k l),x.kind=39
 | 0,l=>by simp [A4f]
 | k+1,[]=>by simp [A4f]
 | k+1,a::r=>by
  unfold A4f
  split
  ·rename_i h
   intro x hx
   rw [List.take_succ_cons] at hx
   rcases List.mem_cons.1 hx with rfl | hx
   ·exact h
   ·exact D0p k r x hx
  ·simp
theorem B6q {l:List Act} {n:Nat} (h:n<l.length):l.drop n=l.getD n Act.zero::l.drop (n+1):=by
 rw [gdE h];exact List.drop_eq_getElem_cons h
theorem D9j {l:List Act} {n k:Nat} (h:n<l.length) (hk:(l.getD n Act.zero).kind=39):A4f (k+1) (l.drop n)=A4f k (l.drop (n+1))+1:=by
 rw [B6q h];exact if_pos hk
theorem D7i {l:List Act} {n k:Nat} (h:¬ (n<l.length∧0<k∧(l.getD n Act.zero).kind=39)):A4f k (l.drop n)=0:=by
 cases k with
 | zero=>rfl
 | succ k =>
  by_cases h1:n<l.length
  ·rw [B6q h1];unfold A4f;rw [if_neg (fun e=>h ⟨h1,by omega,e⟩)]
  ·rw [List.drop_eq_nil_of_le (by omega)];rfl
def C8x:Nat→List Act→List UInt8
 | 0,_=>[]
 | _+1,[]=>[]
 | fu+1,a::r=>if A4f 16 (a::r)=0 then A0d a++C8x fu r else D5c ((a::r).take (A4f 16 (a::r)))++C8x fu ((a::r).drop (A4f 16 (a::r)))
theorem B8x:∀ (fu fu':Nat) (l:List Act),l.length<fu→l.length<fu'→C8x fu l=C8x fu' l
 | 0,_,_,h,_=>by omega
 | _,0,_,_,h=>by omega
 | fu+1,fu'+1,[],_,_=>rfl
 | fu+1,fu'+1,a::r,h,h'=>by
  simp only [List.length_cons] at h h'
  unfold C8x
  split
  ·rw [B8x fu fu' r (by omega) (by omega)]
  ·rw [B8x fu fu' _ (by rw [List.length_drop,List.length_cons];omega) (by rw [List.length_drop,List.length_cons];omega)]
def enc (l:List Act):List UInt8:=C8x (l.length+1) l
theorem C8m:enc []=[]:=rfl
theorem D4j {a:Act} {r:List Act} (h:A4f 16 (a::r)=0):enc (a::r)=A0d a++enc r:=by
 unfold enc
 rw [C8x,if_pos h];rfl
theorem D3i {l:List Act} (h:A4f 16 l≠0):enc l=D5c (l.take (A4f 16 l))++enc (l.drop (A4f 16 l)):=by
 cases l with
 | nil=>exact absurd rfl h
 | cons a r =>
  unfold enc
  rw [C8x,if_neg h,B8x (a::r).length (((a::r).drop (A4f 16 (a::r))).length+1) _ (by rw [List.length_drop,List.length_cons];omega) (by omega)]
def B4j (l:List Act):Prop:=∀ a ∈ l,F1 a=true
theorem B4j.drop {l:List Act} (h:B4j l) (n:Nat):B4j (l.drop n):=fun a ha=>h a (List.mem_of_mem_drop ha)
theorem B4j.take {l:List Act} (h:B4j l) (n:Nat):B4j (l.take n):=fun a ha=>h a (List.mem_of_mem_take ha)
theorem D7q {l:List Act} (h:B4j l) (k:Nat):∀ a ∈ l.take (A4f k l),Told a:=fun a ha=>B9c (D0p k l a ha) (h a (List.mem_of_mem_take ha))
theorem D6t {l:List Act} (h:B4j l):A2x (l.take (A4f 16 l))=D5c (l.take (A4f 16 l)) :=
 D4m (by rw [List.length_take];have:=(C7n 16 l).1;omega) (D7q h 16)
theorem eb5 (l:List Act) (ag:List UInt8→Int→List UInt8×Int) (b:List UInt8) (i:Nat):∀ (fu j:Nat),l.length - (i+j)<fu→j≤16 →
  Z5 l ag fu b (i:Int) ((i+j:Nat):Int)=if j+A4f (16 - j) (l.drop (i+j))=0 then ag (b++A2m (l.getD i Act.zero)) ((i:Int)+1)
   else ag (b++A2x ((l.drop i).take (j+A4f (16 - j) (l.drop (i+j))))) ((i+(j+A4f (16 - j) (l.drop (i+j))):Nat):Int)
 | 0,j,h,_=>by omega
 | fu+1,j,h,hj=>by
  rw [Z5]
  by_cases hc:i+j<l.length∧0<16 - j∧(l.getD (i+j) Act.zero).kind=39
  ·have e:(((decide (((i+j:Nat):Int)<(l.length:Int)))&&(decide (((i+j:Nat):Int)<((i:Int)+16))))&&(decide ((l.getD ((((i+j:Nat):Int)).toNat) Act.zero).kind=39)))=true:=by
    rw [Int.toNat_natCast];simp only [Bool.and_eq_true,decide_eq_true_eq];exact ⟨⟨by omega,by omega⟩,hc.2.2⟩
   rw [e,cond_true]
   have ih:=eb5 l ag b i fu (j+1) (by omega) (by omega)
   have e2:(((i+j:Nat):Int)+1)=((i+(j+1):Nat):Int):=by omega
   rw [e2,ih]
   obtain ⟨m,hm⟩:∃ m,16 - j=m+1:=⟨16 - j - 1,by omega⟩
   have e3:A4f (16 - j) (l.drop (i+j))=A4f (16 - (j+1)) (l.drop (i+(j+1)))+1:=by
    rw [hm,D9j hc.1 hc.2.2,show 16 - (j+1)=m by omega];rfl
   rw [e3,show j+1+A4f (16 - (j+1)) (l.drop (i+(j+1)))=j+(A4f (16 - (j+1)) (l.drop (i+(j+1)))+1) by omega]
  ·have e:(((decide (((i+j:Nat):Int)<(l.length:Int)))&&(decide (((i+j:Nat):Int)<((i:Int)+16))))&&(decide ((l.getD ((((i+j:Nat):Int)).toNat) Act.zero).kind=39)))=false:=by
    rw [Int.toNat_natCast]
    simp only [Bool.and_eq_false_iff,decide_eq_false_iff_not]
    by_cases h1:i+j<l.length
    ·by_cases h2:0<16 - j
     ·exact .inr (fun h3=>hc ⟨h1,h2,h3⟩)
     ·exact .inl (.inr (by omega))
    ·exact .inl (.inl (by omega))
   rw [e,cond_false,D7i hc]
   by_cases h0:j=0
   ·subst h0
    rw [decide_eq_true (by omega:((i+0:Nat):Int)=(i:Int)),cond_true,if_pos (by rfl),Int.toNat_natCast]
   ·rw [decide_eq_false (by omega:¬ ((i+j:Nat):Int)=(i:Int)),cond_false,if_neg (by omega),Int.toNat_natCast,Int.toNat_natCast,show i+j - i=j by omega]
    unfold C0
    rw [show (((i+j:Nat):Int) - 1)+1=((i+(j+0):Nat):Int) by omega];rfl
theorem eb4 (l:List Act) (hg:B4j l):∀ (fu i:Nat) (b:List UInt8),l.length - i<fu→i≤l.length→S0 l fu b (i:Int)=(b++enc (l.drop i),0)
 | 0,i,b,h,_=>by omega
 | fu+1,i,b,h,hi=>by
  rw [S0]
  by_cases hc:i<l.length
  ·rw [decide_eq_true (by omega:(i:Int)<(l.length:Int)),cond_true]
   have h5:=eb5 l (S0 l fu) b i (((l.length:Int) - (i:Int)).toNat+1) 0 (by omega) (by omega)
   rw [show ((i+0:Nat):Int)=(i:Int) by omega] at h5
   rw [h5]
   simp only [Nat.zero_add,Nat.add_zero,Nat.sub_zero]
   have hd:=B6q hc
   by_cases h0:A4f 16 (l.drop i)=0
   ·rw [if_pos h0,show (i:Int)+1=((i+1:Nat):Int) by omega,eb4 l hg fu (i+1) _ (by omega) (by omega)]
    have ht:A2m (l.getD i Act.zero)=A0d (l.getD i Act.zero):=D7d (hg _ (by rw [gdE hc];exact List.getElem_mem hc))
    rw [ht,hd,D4j (by rw [← hd];exact h0),List.append_assoc]
   ·have hl:=C7n 16 (l.drop i)
    rw [List.length_drop] at hl
    rw [if_neg h0,eb4 l hg fu _ _ (by omega) (by omega),D6t (hg.drop i),D3i h0,List.drop_drop,List.append_assoc]
  ·rw [decide_eq_false (by omega:¬ (i:Int)<(l.length:Int)),cond_false,List.drop_eq_nil_of_le (by omega),C8m,List.append_nil]
theorem eb0 (L:List Act):∀ (l:List Act) (t:Nat),(∀ a ∈ l,M1 a=0)→Q7 L l t=S0 L (((L.length:Int) - 0).toNat+1) [] 0
 | [],t,_=>rfl
 | a::l,t,h=>by
  rw [Q7,h a (List.mem_cons_self ..)]
  exact eb0 L l (t+1) (fun x hx=>h x (List.mem_cons_of_mem _ hx))
theorem D2z (L:List Act):∀ (l:List Act) (t:Nat),(¬ ∀ a ∈ l,M1 a=0)→Q7 L l t=([],200)
 | [],t,h=>absurd (fun a ha=>by cases ha) h
 | a::l,t,h=>by
  rw [Q7]
  rcases D4y a with e | e
  ·rw [e]
   refine D2z L l (t+1) fun h2=>h fun x hx=>?_
   rcases List.mem_cons.1 hx with rfl | hx
   ·exact e
   ·exact h2 x hx
  ·rw [e];rfl
theorem D2d {l:List Act} (hl:l.length≤131072) (hm:∀ a ∈ l,B0j a.m) (hg:B4j l):A0h l=(enc l,0):=by
 unfold A0h
 rw [decide_eq_false (by omega:¬ (131072:Int)<(l.length:Int)),cond_false,eb0 l l 0 (fun a ha=>(C0j (hm a ha)).2 (hg a ha))]
 have:=eb4 l hg (((l.length:Int) - 0).toNat+1) 0 [] (by omega) (Nat.zero_le _)
 rw [List.drop_zero,List.nil_append] at this
 exact this
theorem D4w {l:List Act} (hl:l.length≤131072) (hm:∀ a ∈ l,B0j a.m) (hg:¬ B4j l):A0h l=([],200):=by
 unfold A0h
 rw [decide_eq_false (by omega:¬ (131072:Int)<(l.length:Int)),cond_false]
 exact D2z l l 0 fun h=>hg fun a ha=>(C0j (hm a ha)).1 (h a ha)
theorem D1x {a:Act} (h:F1 a=true):enc [a]=A0d a:=by
 by_cases hk:a.kind=39
 ·have e:A4f 16 [a]=1:=by unfold A4f;rw [if_pos hk];rfl
  rw [D3i (by rw [e];decide),e,D8p hk,C9n (Nat.le_of_ble_eq_true rfl) (fun x hx=>by rw [List.mem_singleton.1 hx];exact B9c hk h)]
  show D5c [a]++enc []=_;rw [C8m,List.append_nil]
 ·rw [D4j (by unfold A4f;rw [if_neg hk]),C8m,List.append_nil]
end Go.Proofs.YtanighkpfmgnbaaGreatDoor
set_option linter.unusedVariables false
set_option linter.unusedSimpArgs false
set_option maxRecDepth 10000
namespace Go.Proofs.YtanighkpfmgnbaaGreatDoor
open Go Go.Fen
theorem E2a {a:Act} (hm:B0j a.m):B2m a=A6p a:=by
 show A0h [a]=_
 have hm':∀ x ∈ [a],B0j x.m:=fun x hx=>by rw [List.mem_singleton.1 hx];exact hm
 unfold A6p
 cases h:F1 a with
 | true =>
  rw [D2d (by simp) hm' (fun x hx=>by rw [List.mem_singleton.1 hx];exact h),D1x h];rfl
 | false =>
  rw [D4w (by simp) hm' (fun hg=>by rw [hg a (List.mem_singleton.2 rfl)] at h;cases h)];rfl
set_option maxRecDepth 100000 in
theorem D2p:A3r=true:=by decide +kernel
theorem D8v {a:Act} (h:(I8 a).2=0):a={Act.zero with kind:=44,text:=a.text}∨a={Act.zero with kind:=45,n:=a.n,color:=a.color}∨a={Act.zero with kind:=46,text:=a.text}:=by
 unfold I8 C0 at h
 simp only [Bool.cond_eq_ite] at h
 split at h
 ·rename_i e;simp only [Bool.and_eq_true,decide_eq_true_eq] at e;exact .inl e.1
 split at h
 ·rename_i e;simp only [Bool.and_eq_true,decide_eq_true_eq] at e;exact .inr (.inl e.1.1.1)
 split at h
 ·rename_i e;simp only [Bool.and_eq_true,decide_eq_true_eq] at e;exact .inr (.inr e.1)
 ·exact absurd h (by decide)
theorem E2v {a:Act} (h:C4z a):B0j a.m:=by
 have hp:∀ j<8,0≤pw8 j∧pw8 j≤1000:=by decide +kernel
 unfold B0j
 rcases h with rfl | ⟨j,hj,rfl⟩ | rfl | ⟨j,hj,h2,rfl⟩ | ⟨m,h0,h5,rfl⟩ | ⟨p,c,hp,hc,rfl⟩
 ·decide
 ·have:=hp j hj;show _≤pw8 j∧pw8 j≤_;omega
 ·decide
 ·have:=hp j hj;show _≤pw8 j∧pw8 j≤_;omega
 ·show _≤m∧m≤_;omega
 ·show _≤(0:Int)∧(0:Int)≤_;omega
theorem D9x {a:Act} (h:F1 a=true):B0j a.m:=by
 have hr:=G7 h
 by_cases h39:a.kind=39
 ·unfold F1 at h
  rw [decide_eq_true h39,cond_true,decide_eq_true_iff] at h
  exact E2v (D6q h)
 unfold F1 R8 C0 at h
 rw [decide_eq_false h39,cond_false] at h
 by_cases h4:a.kind=44∨a.kind=45∨a.kind=46
 ·have h8:(I8 a).2=0:=by
   rcases h4 with e | e | e<;>rw [e] at h<;>exact of_decide_eq_true h
  rcases D8v h8 with e | e | e<;>rw [e]<;>exact ⟨by show _≤(0:Int);omega,by show (0:Int)≤_;omega⟩
 ·simp only [show ¬ a.kind=44 by omega,show ¬ a.kind=45 by omega,show ¬ a.kind=46 by omega,decide_false,cond_false,Bool.and_eq_true] at h
  unfold B0j
  by_cases h1:a.kind=1
  ·have hn:=h.1.1
   unfold N2 at hn
   rw [decide_eq_true h1,cond_true] at hn
   simp only [Bool.and_eq_true,decide_eq_true_eq] at hn
   omega
  ·unfold B4p at hr;omega
theorem D4i {x:Int} (h0:0≤x) (h1:x≤16777215):F6 ⟨2,x⟩=0:=by
 rw [B0a]
 show (bif ((decide ((0:Int)≤x))&&(decide (x≤16777215))) then (0:Int) else 130)=0
 rw [decide_eq_true h0,decide_eq_true h1];rfl
theorem D7g {x:Int} (h0:0≤x) (h1:x≤255):F6 ⟨1,x⟩=0:=by
 rw [B0a]
 show (bif ((decide ((0:Int)≤x))&&(decide (x≤255))) then (0:Int) else 130)=0
 rw [decide_eq_true h0,decide_eq_true h1];rfl
theorem D0y:F6 Col.zero=0:=by decide +kernel
theorem E6d:∀ k<8,∃ j,j<8∧(([4,8,16,32,64,128]:List Int)++([1,2]:List Int)).getD k 0=pw8 j:=by
 intro k hk
 have:∀ k<8,(([4,8,16,32,64,128]:List Int)++([1,2]:List Int)).getD k 0=pw8 ((k+2) % 8):=by decide +kernel
 exact ⟨(k+2) % 8,by omega,this k hk⟩
theorem E5w:∀ k<7,(k=6∧(([4,8,16,32,64,128]:List Int)++([3]:List Int)).getD k 0=3)∨(k<6∧(([4,8,16,32,64,128]:List Int)++([3]:List Int)).getD k 0=pw8 (k+2)):=by decide +kernel
theorem E0i (d:Drf) (hd:B6k d):C4z (A4a d):=by
 unfold B6k at hd
 have hn:0≤d.n % 7∧d.n % 7<7:=by omega
 unfold A4a
 by_cases h1:d.n % 7=1
 ·obtain ⟨j,hj,e⟩:=E6d (d.m % 8).toNat (by omega)
  rw [decide_eq_true h1,cond_true,e,h1];exact .inr (.inl ⟨j,hj,rfl⟩)
 by_cases h2:d.n % 7=2
 ·rw [decide_eq_false h1,decide_eq_true h2,cond_false,cond_true,h2]
  rcases E5w (d.m % 7).toNat (by omega) with ⟨_,e⟩ | ⟨hk,e⟩
  ·rw [e];exact .inr (.inr (.inl rfl))
  ·rw [e];exact .inr (.inr (.inr (.inl ⟨_,by omega,by omega,rfl⟩)))
 by_cases h3:d.n % 7=3
 ·rw [decide_eq_false h1,decide_eq_false h2,decide_eq_true h3,cond_false,cond_false,cond_true,h3]
  exact .inr (.inr (.inr (.inr (.inl ⟨d.m % 6,by omega,by omega,rfl⟩))))
 have hj:∀ p:Int,(p=4∨p=5∨p=6)→d.n % 7=p→C4z (A1c d true):=by
  intro p hp e
  have key:∀ c:Col,F6 c=0→C4z {Act.zero with kind:=39,n:=(d.n % 7),color:=c}:=fun c hc=>.inr (.inr (.inr (.inr (.inr ⟨p,c,hp,hc,by rw [e];rfl⟩))))
  unfold A1c
  simp only [Bool.cond_eq_ite]
  repeat' split
  ·exact key _ (D4i (by omega) (by omega))
  ·exact key _ (D7g (by omega) (by omega))
  ·exact key _ (D7g (by omega) (by omega))
  ·exact key _ D0y
  ·exact key _ D0y
 by_cases h4:d.n % 7=4
 ·rw [decide_eq_false h1,decide_eq_false h2,decide_eq_false h3,decide_eq_true h4];exact hj 4 (by omega) h4
 by_cases h5:d.n % 7=5
 ·rw [decide_eq_false h1,decide_eq_false h2,decide_eq_false h3,decide_eq_false h4,decide_eq_true h5];exact hj 5 (by omega) h5
 by_cases h6:d.n % 7=6
 ·rw [decide_eq_false h1,decide_eq_false h2,decide_eq_false h3,decide_eq_false h4,decide_eq_false h5,decide_eq_true h6];exact hj 6 (by omega) h6
 ·have h0:d.n % 7=0:=by omega
  rw [decide_eq_false h1,decide_eq_false h2,decide_eq_false h3,decide_eq_false h4,decide_eq_false h5,decide_eq_false h6]
  show C4z {Act.zero with kind:=39,n:=(d.n % 7)}
  rw [h0];exact .inl rfl
theorem C5u (d:Drf) (i k:Nat) (ag:Nat→Act) (hag:F1 (ag (k+1))=true):∀ (fu b:Nat),5 - b<fu→F1 (N0 d i k ag fu b)=true
 | 0,_,h=>by omega
 | fu+1,b,h=>by
  rw [N0]
  by_cases hb:b<5
  ·rw [decide_eq_true (by omega:(b:Int)<5),cond_true]
   simp only [Bool.cond_eq_ite]
   split
   ·assumption
   split
   ·assumption
   split
   ·assumption
   ·exact C5u d i k ag hag fu (b+1) (by omega)
  ·rw [decide_eq_false (by omega:¬ (b:Int)<5),cond_false];exact hag
theorem C6g (d:Drf) (i:Nat) (ag:Nat→Act) (hag:F1 (ag (i+1))=true):∀ (fu k:Nat),5 - k<fu→F1 (K6 d i ag fu k)=true
 | 0,_,h=>by omega
 | fu+1,k,h=>by
  rw [K6]
  by_cases hb:k<5
  ·rw [decide_eq_true (by omega:(k:Int)<5),cond_true]
   exact C5u d i k _ (C6g d i ag hag fu (k+1) (by omega)) _ _ (by omega)
  ·rw [decide_eq_false (by omega:¬ (k:Int)<5),cond_false];exact hag
theorem C9a (d:Drf):∀ (fu i:Nat),5 - i<fu→F1 (K1 d fu i)=true
 | 0,_,h=>by omega
 | fu+1,i,h=>by
  rw [K1]
  by_cases hb:i<5
  ·rw [decide_eq_true (by omega:(i:Int)<5),cond_true]
   exact C6g d i _ (C9a d fu (i+1) (by omega)) _ _ (by omega)
  ·rw [decide_eq_false (by omega:¬ (i:Int)<5),cond_false];decide +kernel
theorem E0u {x:Int} (h:F6 ⟨2,x⟩=0):A1s ⟨2,x⟩=(x,true):=by
 unfold A1s;rw [h];rfl
theorem D5d {x:Int} (h:F6 ⟨2,x⟩=0):(X6 ⟨2,x⟩).2=0:=by
 unfold X6
 rw [h,E0u h];rfl
theorem D8s {x:Int} (h0:0≤x) (h1:x≤16777215):(A0l ⟨2,x⟩).2=0:=by
 have h:=D5d (D4i h0 h1)
 rcases C8u (c:=⟨2,x⟩) rfl with e | ⟨e,_⟩
 ·rw [← e];exact h
 ·exact absurd h e
theorem C3c (x y:Act) (hy:F1 y=true):F1 (bif (!(F1 x)) then y else x)=true:=by
 cases h:F1 x with
 | true=>exact h
 | false=>exact hy
theorem D9d {n x:Int} (hn:0≤n∧n≤255) (hx:0≤x∧x≤16777215):F1 ⟨45,n,0,⟨2,x⟩,[]⟩=true:=by
 have e5:=D8s hx.1 hx.2
 have e:F1 ⟨45,n,0,⟨2,x⟩,[]⟩=decide ((I8 ⟨45,n,0,⟨2,x⟩,[]⟩).2=0):=by
  unfold F1 R8
  simp only [Int.reduceEq,decide_true,decide_false,cond_true,cond_false,C0]
 rw [e,decide_eq_true_iff]
 have e4:decide ((⟨45,n,0,⟨2,x⟩,[]⟩:Act)={Act.zero with kind:=44,text:=[]})=false:=decide_eq_false (fun h=>by injection h with h;exact absurd h (by decide))
 have e45:decide ((⟨45,n,0,⟨2,x⟩,[]⟩:Act)={Act.zero with kind:=45,n:=n,color:=⟨2,x⟩})=true:=decide_eq_true rfl
 unfold I8
 simp only [e4,e45,C0,Bool.false_and,cond_false,decide_true,Bool.true_and,decide_eq_true hn.1,decide_eq_true hn.2,cond_true,e5]
theorem D6l:F1 {Act.zero with kind:=44,text:=[116]}=true:=by decide +kernel
theorem D7t:F1 {Act.zero with kind:=46,text:=[116]}=true:=by decide +kernel
theorem B9i {b:Bool} {x y:Act} (h1:b=true→F1 x=true) (h2:b=false→F1 y=true):F1 (bif b then x else y)=true:=by
 cases b with
 | true=>exact h1 rfl
 | false=>exact h2 rfl
theorem D5q {a:Act} (hp:C4z a):F1 a=true:=by
 have hT:=B5s hp
 have hk:a.kind=39:=by
  rcases hp with e | ⟨j,hj,e⟩ | e | ⟨j,hj,h2,e⟩ | ⟨m,h0,h5,e⟩ | ⟨p,c,hp,hc,e⟩<;>rw [e]<;>rfl
 unfold F1
 rw [decide_eq_true hk,cond_true,hT.rchk];rfl
theorem D4q (d:Drf) (hd:B6k d):F1 (A0 d)=true:=by
 have hp:=D5q (E0i d hd)
 have h8:=C9a d ((5 - 0)+1) 0 (by omega)
 unfold B6k at hd
 unfold A0
 have hw:0≤IntKind.i64.wrap ((1:Int)+d.kind % 46):=by rw [D7b (by omega:0≤(1:Int)+d.kind % 46∧(1:Int)+d.kind % 46≤1000000000)];omega
 generalize IntKind.i64.wrap ((1:Int)+d.kind % 46)=w at hw ⊢
 refine B9i (fun h=>?_) (fun h=>?_)
 ·rw [Bool.or_eq_true,decide_eq_true_iff,decide_eq_true_iff] at h
  rcases h with rfl | rfl
  ·exact C3c _ _ D6l
  ·exact C3c _ _ D7t
 ·refine B9i (fun h2=>?_) (fun h2=>?_)
  ·obtain rfl:=of_decide_eq_true h2
   exact D9d (by omega) (by omega)
  ·exact B9i (fun _=>hp) (fun _=>h8)
theorem D8u {x y:List UInt8×Int} (h:x=y):((!(decide (x.1=y.1)))||(!decide (x.2=y.2)))=false:=by subst h;simp
theorem E3l {x0 x1 x2 x3 x4 x5:Act} (h0:B0j x0.m) (h1:B0j x1.m) (h2:B0j x2.m) (h3:B0j x3.m) (h4:B0j x4.m) (h5:B0j x5.m):∀ k:Nat,B0j (([x0,x1,x2,x3,x4,x5]:List Act).getD k Act.zero).m
 | 0=>h0 | 1=>h1 | 2=>h2 | 3=>h3 | 4=>h4 | 5=>h5 | _+6=>⟨by show _≤(0:Int);omega,by show (0:Int)≤_;omega⟩
theorem D4s (y:Act) (hm:B0j y.m) (K:Bool):(C0 (B2m y) fun (r:List UInt8×Int)=>(C0 (A6p y) fun (q:List UInt8×Int)=>(bif ((!(decide (r.1=q.1)))||(!decide (r.2=q.2))) then false else K)))=K:=by
 simp only [C0]
 rw [D8u (E2a hm),cond_false]
theorem D8c (a:Act) (d:Drf) (n:Int) (ha:B0j a.m) (hn:B0j n) (hd:B0j (A0 d).m):∀ (fu t:Nat),6 - t<fu→Y5 a d n fu t=true
 | 0,t,h=>by omega
 | fu+1,t,h=>by
  rw [Y5]
  by_cases ht:t<6
  ·rw [decide_eq_true (by omega:(t:Int)<6),cond_true]
   have ih:=D8c a d n ha hn hd fu (t+1) (by omega)
   rw [ih]
   have hm:=E3l (x0:=⟨a.kind,a.n,a.m,a.color,(a.text.take ((if (600:Int)<(a.text.length:Int) then (600:Int) else (a.text.length:Int)).toNat))⟩) (x1:=⟨(A0 d).kind,(A0 d).n,(A0 d).m,((A0 d).color),(A0 d).text⟩)
    (x2:=⟨(A0 d).kind,n,(A0 d).m,((A0 d).color),(A0 d).text⟩) (x3:=⟨(A0 d).kind,(A0 d).n,n,((A0 d).color),(A0 d).text⟩)
    (x4:=⟨(A0 d).kind,a.n,a.m,(⟨0,0⟩:Col),[]⟩) (x5:=⟨(A0 d).kind,((IntKind.u64.wrap n) % 5),1,(⟨0,0⟩:Col),[]⟩) ha hd hd hn ha ⟨by show _≤(1:Int);omega,by show (1:Int)≤_;omega⟩ t
   generalize List.getD _ t Act.zero=y at hm ⊢
   exact D4s y hm true
  ·rw [decide_eq_false (by omega:¬ (t:Int)<6),cond_false];exact D2p
theorem C7x (a:Act) (d:Drf) (n:Int) (ha:B0j a.m) (hn:B0j n) (hd:B6k d):A9i a d n=true :=
 D8c a d n ha hn (D9x (D4q d hd)) _ 0 (by omega)
end Go.Proofs.YtanighkpfmgnbaaGreatDoor
