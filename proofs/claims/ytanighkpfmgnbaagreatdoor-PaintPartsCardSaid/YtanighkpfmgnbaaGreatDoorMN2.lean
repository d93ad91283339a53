import Derived.Test.YtanighkpfmgnbaaGreatDoorMN1
import Derived.Test.YtanighkpfmgnbaaGreatDoorMP3
set_option linter.unusedVariables false
set_option linter.unusedSimpArgs false
set_option linter.unnecessarySimpa false
set_option maxRecDepth 10000
namespace Go.Proofs.YtanighkpfmgnbaaGreatDoor
open Go Go.Fen
theorem B7a {α:Type} (a w:Act) (f:Unit→Option α):Option.bind (A6z a w) f=bif decide (a=w) then f () else none:=by
 unfold A6z W8
 cases decide (a=w)<;>rfl
theorem B2h {α:Type} (b:Bool) (f:Unit→Option α):Option.bind (W8 b) f=bif b then f () else none:=by
 unfold W8;cases b<;>rfl
theorem D1y {α:Type} (t:List UInt8) (x:α):Option.bind (A7c t) (fun _=>some x)=bif A7v t then some x else none:=by
 rw [← D2k];cases A7c t<;>rfl
theorem E1x (n m:Int) (c:Col) (t:List UInt8):A0m n m c t=P0 ⟨44,n,m,c,t⟩:=by
 unfold A0m U6 A6h
 rw [B2h,cond_true,B7a,D1y]
 have hB:decide ((⟨44,n,m,c,t⟩:Act)={Act.zero with kind:=45,n:=n,color:=c})=false:=decide_eq_false (fun h=>by injection h with h;exact absurd h (by decide))
 have hC:decide ((⟨44,n,m,c,t⟩:Act)={Act.zero with kind:=46,text:=t})=false:=decide_eq_false (fun h=>by injection h with h;exact absurd h (by decide))
 unfold P0
 simp only [hB,hC,Bool.false_and,cond_false]
 cases decide ((⟨44,n,m,c,t⟩:Act)={Act.zero with kind:=44,text:=t})<;>cases A7v t<;>rfl
theorem E2c (n m:Int) (c:Col) (t:List UInt8):X2 n m c t=P0 ⟨45,n,m,c,t⟩:=by
 unfold X2 S2 A6g
 rw [B2h,cond_true,B7a]
 have hA:decide ((⟨45,n,m,c,t⟩:Act)={Act.zero with kind:=44,text:=t})=false:=decide_eq_false (fun h=>by injection h with h;exact absurd h (by decide))
 have hC:decide ((⟨45,n,m,c,t⟩:Act)={Act.zero with kind:=46,text:=t})=false:=decide_eq_false (fun h=>by injection h with h;exact absurd h (by decide))
 unfold P0 B6
 simp only [hA,hC,Bool.false_and,cond_false]
 cases decide ((⟨45,n,m,c,t⟩:Act)={Act.zero with kind:=45,n:=n,color:=c}) with
 | false=>rfl
 | true =>
  simp only [B2h,cond_true,Bool.true_and]
  by_cases hk:c.kind=2
  ·by_cases h0:(0:Int)≤n
   ·rw [decide_eq_true hk,decide_eq_true h0,C3s h0]
    rcases D7r hk with e | ⟨e1,e2⟩
    ·rw [e]
     cases decide ((A6w c).2=0)<;>cases decide (n≤255)<;>rfl
    ·rw [decide_eq_false e1,decide_eq_false e2]
     cases decide (n≤255)<;>rfl
   ·rw [decide_eq_false h0]
    cases decide ((A0c c).2=0)<;>cases decide (c.kind=2)<;>rfl
  ·rw [decide_eq_false hk]
   cases decide ((A0c c).2=0)<;>cases decide ((0:Int)≤n)<;>cases decide (n≤255)<;>rfl
theorem E2d (n m:Int) (c:Col) (t:List UInt8):X4 n m c t=P0 ⟨46,n,m,c,t⟩:=by
 unfold X4 R8 A5y
 rw [B2h,cond_true,B7a]
 have hA:decide ((⟨46,n,m,c,t⟩:Act)={Act.zero with kind:=44,text:=t})=false:=decide_eq_false (fun h=>by injection h with h;exact absurd h (by decide))
 have hB:decide ((⟨46,n,m,c,t⟩:Act)={Act.zero with kind:=45,n:=n,color:=c})=false:=decide_eq_false (fun h=>by injection h with h;exact absurd h (by decide))
 unfold P0 B6
 simp only [hA,hB,Bool.false_and,cond_false]
 cases decide ((⟨46,n,m,c,t⟩:Act)={Act.zero with kind:=46,text:=t}) with
 | false=>rfl
 | true =>
  simp only [B2h,cond_true,Bool.true_and]
  by_cases h:(t.length:Int)≤378
  ·have h2:(W1 t).2=0:=by rw [C6f (by omega)]
   rw [decide_eq_true h,decide_eq_true h2,E4n (by omega)]
   rfl
  ·rw [decide_eq_false h];rfl
theorem D5y (a:Act):L8 a=0∨L8 a=200:=by
 unfold L8 B6
 simp only [Bool.cond_eq_ite]
 repeat' split
 all_goals first|exact .inl rfl|exact .inr rfl
def C1v (n:Int):Prop:=-9223372036854775808≤n∧n≤9223372036854775807
theorem D4g {c:Bool}:(bif c then (200:Int) else 0)=0 ↔ c=false:=by cases c<;>decide
theorem B8i {c:Bool}:(bif !c then (200:Int) else 0)=0 ↔ c=true:=by cases c<;>decide
def C7j:List Int:=[17,18,19,20,26,27,35,38,40,41,2,3,4,5,6,8,9,10,11,12,13,15,16,7,14,42,21,33,22,23,24,25,28,29,30,31,32,34,36,37,43]
theorem D6j (k:Int):H5 k B9=C7j.contains k:=by rw [B1x];rfl
theorem D0u (lo hi n:Int):A6 ({Spn.zero with lo:=lo,hi:=hi}) n=(decide (lo≤n)&&decide (n≤hi)):=rfl
theorem E0y (n lo hi:Int):W6 n lo hi=(decide (lo≤n)&&decide (n≤hi)):=by unfold W6;rfl
theorem D5l (n:Int):(decide ((0:Int)≤n)&&decide (n≤0))=decide (n=0):=by
 by_cases h:n=0
 ·subst h;rfl
 ·rw [decide_eq_false h,Bool.and_eq_false_iff,decide_eq_false_iff_not,decide_eq_false_iff_not];omega
theorem D4l {a:Act} (hk:a.kind≠1) (h:C7j.contains a.kind=true):(E9 a.kind a.n&&F4 a.kind a.m)=Y5 a:=by
 obtain ⟨k,n,m,c,t⟩:=a
 simp only [C7j,List.contains_cons,List.contains_nil,Bool.or_false,Bool.or_eq_true,beq_iff_eq] at h
 unfold Y5 I8 A1k A4h M3 A1m A5l
 rcases h with h | h | h | h | h | h | h | h | h | h | h | h | h | h | h | h | h | h | h | h | h | h | h | h | h | h | h | h | h | h | h | h | h | h | h | h | h | h | h | h | h<;>subst h <;>
  simp only [E9,F4,Int.reduceEq,decide_true,decide_false,cond_true,cond_false,D0u,E0y,D5l,Z5]
theorem D4c {a:Act} (h1:a.kind≠1) (h39:a.kind≠39) (h44:a.kind≠44) (h45:a.kind≠45) (h46:a.kind≠46) (h:C7j.contains a.kind=false):Y5 a=false:=by
 simp only [C7j,List.contains_cons,List.contains_nil,Bool.or_false,Bool.or_eq_false_iff,beq_eq_false_iff_ne,ne_eq] at h
 unfold Y5 I8 A1k A4h M3 A1m
 simp only [h,h1,decide_false,cond_false]
theorem C0u {a:Act} (hm:C1v a.m):L8 a=0 ↔ A1r a=true:=by
 unfold L8 A1r A3l B6
 by_cases h39:a.kind=39
 ·have e:(⟨39,a.n,a.m,a.color,a.text⟩:Act)=a:=by rw [← h39]
  rw [e,h39]
  show (bif (!decide (I2 a=0)) then (200:Int) else 0)=0 ↔ decide (P8 a=0)=true
  rw [B8i,decide_eq_true_iff,decide_eq_true_iff];exact E1g hm.1 hm.2
 rw [decide_eq_false h39,cond_false,cond_false]
 by_cases h44:a.kind=44
 ·have e:P0 a=A0m a.n a.m a.color a.text:=by rw [E1x,← h44]
  rw [e,h44]
  show (bif (!decide ((A0m a.n a.m a.color a.text).2=0)) then (200:Int) else 0)=0 ↔ decide ((A0m a.n a.m a.color a.text).2=0)=true
  rw [B8i,decide_eq_true_iff]
 by_cases h45:a.kind=45
 ·have e:P0 a=X2 a.n a.m a.color a.text:=by rw [E2c,← h45]
  rw [e,h45]
  show (bif (!decide ((X2 a.n a.m a.color a.text).2=0)) then (200:Int) else 0)=0 ↔ decide ((X2 a.n a.m a.color a.text).2=0)=true
  rw [B8i,decide_eq_true_iff]
 by_cases h46:a.kind=46
 ·have e:P0 a=X4 a.n a.m a.color a.text:=by rw [E2d,← h46]
  rw [e,h46]
  show (bif (!decide ((X4 a.n a.m a.color a.text).2=0)) then (200:Int) else 0)=0 ↔ decide ((X4 a.n a.m a.color a.text).2=0)=true
  rw [B8i,decide_eq_true_iff]
 simp only [h44,h45,h46,decide_false,cond_false]
 by_cases h1:a.kind=1
 ·rw [decide_eq_true h1,cond_true,D4g]
  have en:Y5 a=((decide ((0:Int)≤(B9c a.n)))&&(decide (a.m=0))):=by unfold Y5;rw [decide_eq_true h1,cond_true]
  rw [en,D8s]
  have ea:decide ((⟨1,a.n,a.m,a.color,a.text⟩:Act)=A2x a.kind a.n 0)=(decide (a.m=0)&&decide (a.color=Col.zero)&&decide (a.text=[])):=by
   rw [h1,show A2x 1 a.n 0=⟨1,a.n,0,Col.zero,[]⟩ from rfl]
   rw [Bool.eq_iff_iff]
   simp only [decide_eq_true_eq,Bool.and_eq_true,Act.mk.injEq,true_and]
   exact and_assoc.symm
  rw [ea]
  simp only [Bool.or_eq_false_iff,decide_eq_false_iff_not,Bool.not_eq_false',Bool.and_eq_true,decide_eq_true_eq,and_assoc,Int.not_lt]
 ·rw [decide_eq_false h1,cond_false,D4g,D6j]
  cases hN:C7j.contains a.kind with
  | false=>rw [D4c h1 h39 h44 h45 h46 hN];simp
  | true =>
   rw [← D4l h1 hN]
   simp only [Bool.or_eq_false_iff,Bool.not_eq_false',Bool.and_eq_true,decide_eq_true_eq,Bool.not_true,true_and,and_assoc]
theorem D9u {a:Act} (h:A1r a=true) (h1:a.kind≠1) (h39:a.kind≠39) (h44:a.kind≠44) (h45:a.kind≠45) (h46:a.kind≠46):C7j.contains a.kind=true∧Y5 a=true:=by
 unfold A1r A3l at h
 rw [decide_eq_false h39,decide_eq_false h44,decide_eq_false h45,decide_eq_false h46] at h
 simp only [cond_false,Bool.and_eq_true] at h
 refine ⟨?_,h.1.1⟩
 cases hN:C7j.contains a.kind with
 | true=>rfl
 | false=>rw [D4c h1 h39 h44 h45 h46 hN] at h;exact absurd h.1.1 (by decide)
theorem E6s (n:Int) (hn:0≤n∧n≤9999):P2 (-2) [n]=M5 (n.toNat+1) n:=by
 rw [D3q (-2) hn,if_neg (by omega),C3s hn.1]
theorem D7x (k n:Int) (hn:0≤n∧n≤9999):P2 k [n]=P6 n k:=by rw [D3q k hn,C8j k hn.1]
theorem E2b (k n m:Int) (hn:0≤n∧n≤9999) (hm:0≤m∧m≤9999):P2 k [n,m]=A7f n m k:=by rw [D9x k hn hm,E4v k hn.1 hm.1]
theorem E3u {a:Act} (h:a.kind=39):A6v a=A7d [a]:=by
 unfold A6v B6;rw [h];rfl
theorem C5u {a:Act} (hk:a.kind=39) (h:A1r a=true):Told a:=by
 unfold A1r at h
 rw [decide_eq_true hk,cond_true,decide_eq_true_iff] at h
 exact C0f (E1v h)
set_option maxHeartbeats 4000000 in
theorem D9i {a:Act} (h:A1r a=true):A2u a=A6v a:=by
 by_cases h1:a.kind=1
 ·obtain ⟨k,n,m,c,t⟩:=a;dsimp only at h1;subst h1;exact D7q n
 by_cases h39:a.kind=39
 ·have hT:=C5u h39 h
  rw [E3u h39,D7i (Nat.le_of_ble_eq_true rfl) (fun x hx=>by rw [List.mem_singleton.1 hx];exact hT),← D3z (l:=[a]) (Nat.le_of_ble_eq_true rfl) (fun x hx=>by rw [List.mem_singleton.1 hx];exact hT)]
  obtain ⟨k,n,m,c,t⟩:=a;dsimp only at h39;subst h39;rfl
 by_cases h44:a.kind=44
 ·obtain ⟨k,n,m,c,t⟩:=a;dsimp only at h44;subst h44
  show ([27,93]++(A0m n m c t).1)++[27,92]=(([27,93]++(P0 ⟨44,n,m,c,t⟩).1)++[27])++[92]
  rw [E1x,List.append_assoc _ [27] [92]];rfl
 by_cases h45:a.kind=45
 ·obtain ⟨k,n,m,c,t⟩:=a;dsimp only at h45;subst h45
  show ([27,93]++(X2 n m c t).1)++[27,92]=(([27,93]++(P0 ⟨45,n,m,c,t⟩).1)++[27])++[92]
  rw [E2c,List.append_assoc _ [27] [92]];rfl
 by_cases h46:a.kind=46
 ·obtain ⟨k,n,m,c,t⟩:=a;dsimp only at h46;subst h46
  show ([27,93]++(X4 n m c t).1)++[27,92]=(([27,93]++(P0 ⟨46,n,m,c,t⟩).1)++[27])++[92]
  rw [E2d,List.append_assoc _ [27] [92]];rfl
 obtain ⟨hN,hn⟩:=D9u h h1 h39 h44 h45 h46
 rw [← D4l h1 hN] at hn
 clear h h1 h39 h44 h45 h46
 obtain ⟨k,n,m,c,t⟩:=a
 simp only [C7j,List.contains_cons,List.contains_nil,Bool.or_false,Bool.or_eq_true,beq_iff_eq] at hN
 have q1:=D7x 1 n
 have q0:=D7x 0 n
 have qm:=D7x 1 m
 have qd:=E6s n
 have t1:=E2b 1 n m
 have t0:=E2b 0 n m
 rcases hN with h | h | h | h | h | h | h | h | h | h | h | h | h | h | h | h | h | h | h | h | h | h | h | h | h | h | h | h | h | h | h | h | h | h | h | h | h | h | h | h | h<;>subst h <;>
  simp only [E9,F4,Int.reduceEq,decide_true,decide_false,cond_true,cond_false,D0u,Z5,Bool.and_eq_true,Bool.or_eq_true,decide_eq_true_eq] at hn
 all_goals first
  | rfl
  | (show ([27,91]++P2 1 [n])++_=[27,91]++(P6 n 1++_);rw [q1 (by omega)];exact List.append_assoc ..)
  | (show ([27,91]++P2 0 [n])++_=[27,91]++(P6 n 0++_);rw [q0 (by omega)];exact List.append_assoc ..)
  | (show ([27,91]++P2 1 [m])++_=[27,91]++(P6 m 1++_);rw [qm (by omega)];exact List.append_assoc ..)
  | (show ([27,91]++P2 1 [n,m])++_=[27,91]++(A7f n m 1++_);rw [t1 (by omega) (by omega)];exact List.append_assoc ..)
  | (show ([27,91]++P2 0 [n,m])++_=[27,91]++(A7f n m 0++_);rw [t0 (by omega) (by omega)];exact List.append_assoc ..)
  | (show ([27,91]++P2 (-2) [n])++_=[27,91]++(M5 (n.toNat+1) n++_);rw [qd (by omega)];exact List.append_assoc ..)
  | (obtain e | e:n=0∨n=1:=by omega)<;>subst e<;>rfl
  | (obtain e | e:n=2∨n=3:=by omega)<;>subst e<;>rfl
  | (show (([27,91]++[63])++P2 (-2) [n])++_=[27,91]++(([63]++M5 (n.toNat+1) n)++_);rw [qd (by omega)];simp only [List.append_assoc];rfl)
  | (obtain e | e:m=0∨m=1:=by omega)<;>subst e<;>(show (([27,91]++_)++P2 (-2) [n])++_=[27,91]++((_++M5 (n.toNat+1) n)++_);rw [qd (by omega)];simp only [List.append_assoc];rfl)
end Go.Proofs.YtanighkpfmgnbaaGreatDoor
set_option linter.unusedVariables false
set_option linter.unusedSimpArgs false
set_option linter.unnecessarySimpa false
set_option maxRecDepth 10000
namespace Go.Proofs.YtanighkpfmgnbaaGreatDoor
open Go Go.Fen
def V0:Nat→List Act→Nat
 | 0,_=>0
 | _+1,[]=>0
 | k+1,a::r=>if a.kind=39 then V0 k r+1 else 0
theorem B8x:∀ (k:Nat) (l:List Act),V0 k l≤k∧V0 k l≤l.length
 | 0,l=>⟨Nat.le_refl _,Nat.zero_le _⟩
 | k+1,[]=>⟨Nat.zero_le _,Nat.le_refl _⟩
 | k+1,a::r=>by
  have:=B8x k r
  unfold V0
  split
  ·simp only [List.length_cons];omega
  ·exact ⟨Nat.zero_le _,Nat.zero_le _⟩
theorem D0i:∀ (k:Nat) (l:List Act),∀ x ∈ l.take (V0 k l),x.kind=39
 | 0,l=>by simp [V0]
 | k+1,[]=>by simp [V0]
 | k+1,a::r=>by
  unfold V0
  split
  ·rename_i h
   intro x hx
   rw [List.take_succ_cons] at hx
   rcases List.mem_cons.1 hx with rfl | hx
   ·exact h
   ·exact D0i k r x hx
  ·simp
theorem B2q {l:List Act} {n:Nat} (h:n<l.length):l.drop n=l.getD n Act.zero::l.drop (n+1):=by
 rw [gdE h];exact List.drop_eq_getElem_cons h
theorem E0x {l:List Act} {n k:Nat} (h:n<l.length) (hk:(l.getD n Act.zero).kind=39):V0 (k+1) (l.drop n)=V0 k (l.drop (n+1))+1:=by
 rw [B2q h];exact if_pos hk
theorem D8r {l:List Act} {n k:Nat} (h:¬ (n<l.length∧0<k∧(l.getD n Act.zero).kind=39)):V0 k (l.drop n)=0:=by
 cases k with
 | zero=>rfl
 | succ k =>
  by_cases h1:n<l.length
  ·rw [B2q h1];unfold V0;rw [if_neg (fun e=>h ⟨h1,by omega,e⟩)]
  ·rw [List.drop_eq_nil_of_le (by omega)];rfl
def D0b:Nat→List Act→List UInt8
 | 0,_=>[]
 | _+1,[]=>[]
 | fu+1,a::r=>if V0 16 (a::r)=0 then A6v a++D0b fu r else D9d ((a::r).take (V0 16 (a::r)))++D0b fu ((a::r).drop (V0 16 (a::r)))
theorem B9z:∀ (fu fu':Nat) (l:List Act),l.length<fu→l.length<fu'→D0b fu l=D0b fu' l
 | 0,_,_,h,_=>by omega
 | _,0,_,_,h=>by omega
 | fu+1,fu'+1,[],_,_=>rfl
 | fu+1,fu'+1,a::r,h,h'=>by
  simp only [List.length_cons] at h h'
  unfold D0b
  split
  ·rw [B9z fu fu' r (by omega) (by omega)]
  ·rw [B9z fu fu' _ (by rw [List.length_drop,List.length_cons];omega) (by rw [List.length_drop,List.length_cons];omega)]
def enc (l:List Act):List UInt8:=D0b (l.length+1) l
theorem D4e:enc []=[]:=rfl
theorem C7a {a:Act} {r:List Act} (h:V0 16 (a::r)=0):enc (a::r)=A6v a++enc r:=by
 unfold enc
 rw [D0b,if_pos h];rfl
theorem C8e {l:List Act} (h:V0 16 l≠0):enc l=D9d (l.take (V0 16 l))++enc (l.drop (V0 16 l)):=by
 cases l with
 | nil=>exact absurd rfl h
 | cons a r =>
  unfold enc
  rw [D0b,if_neg h,B9z (a::r).length (((a::r).drop (V0 16 (a::r))).length+1) _ (by rw [List.length_drop,List.length_cons];omega) (by omega)]
def A8e (l:List Act):Prop:=∀ a ∈ l,A1r a=true
theorem A8e.drop {l:List Act} (h:A8e l) (n:Nat):A8e (l.drop n):=fun a ha=>h a (List.mem_of_mem_drop ha)
theorem A8e.take {l:List Act} (h:A8e l) (n:Nat):A8e (l.take n):=fun a ha=>h a (List.mem_of_mem_take ha)
theorem D9r {l:List Act} (h:A8e l) (k:Nat):∀ a ∈ l.take (V0 k l),Told a:=fun a ha=>C5u (D0i k l a ha) (h a (List.mem_of_mem_take ha))
theorem D7t {l:List Act} (h:A8e l):A2z (l.take (V0 16 l))=D9d (l.take (V0 16 l)) :=
 D3z (by rw [List.length_take];have:=(B8x 16 l).1;omega) (D9r h 16)
theorem eb5 (l:List Act) (ag:List UInt8→Int→List UInt8×Int) (b:List UInt8) (i:Nat):∀ (fu j:Nat),l.length - (i+j)<fu→j≤16 →
  Z2 l ag fu b (i:Int) ((i+j:Nat):Int)=if j+V0 (16 - j) (l.drop (i+j))=0 then ag (b++A2u (l.getD i Act.zero)) ((i:Int)+1)
   else ag (b++A2z ((l.drop i).take (j+V0 (16 - j) (l.drop (i+j))))) ((i+(j+V0 (16 - j) (l.drop (i+j))):Nat):Int)
 | 0,j,h,_=>by omega
 | fu+1,j,h,hj=>by
  rw [Z2]
  by_cases hc:i+j<l.length∧0<16 - j∧(l.getD (i+j) Act.zero).kind=39
  ·have e:(((decide (((i+j:Nat):Int)<(l.length:Int)))&&(decide (((i+j:Nat):Int)<((i:Int)+16))))&&(decide ((l.getD ((((i+j:Nat):Int)).toNat) Act.zero).kind=39)))=true:=by
    rw [Int.toNat_natCast];simp only [Bool.and_eq_true,decide_eq_true_eq];exact ⟨⟨by omega,by omega⟩,hc.2.2⟩
   rw [e,cond_true]
   have ih:=eb5 l ag b i fu (j+1) (by omega) (by omega)
   have e2:(((i+j:Nat):Int)+1)=((i+(j+1):Nat):Int):=by omega
   rw [e2,ih]
   obtain ⟨m,hm⟩:∃ m,16 - j=m+1:=⟨16 - j - 1,by omega⟩
   have e3:V0 (16 - j) (l.drop (i+j))=V0 (16 - (j+1)) (l.drop (i+(j+1)))+1:=by
    rw [hm,E0x hc.1 hc.2.2,show 16 - (j+1)=m by omega];rfl
   rw [e3,show j+1+V0 (16 - (j+1)) (l.drop (i+(j+1)))=j+(V0 (16 - (j+1)) (l.drop (i+(j+1)))+1) by omega]
  ·have e:(((decide (((i+j:Nat):Int)<(l.length:Int)))&&(decide (((i+j:Nat):Int)<((i:Int)+16))))&&(decide ((l.getD ((((i+j:Nat):Int)).toNat) Act.zero).kind=39)))=false:=by
    rw [Int.toNat_natCast]
    simp only [Bool.and_eq_false_iff,decide_eq_false_iff_not]
    by_cases h1:i+j<l.length
    ·by_cases h2:0<16 - j
     ·exact .inr (fun h3=>hc ⟨h1,h2,h3⟩)
     ·exact .inl (.inr (by omega))
    ·exact .inl (.inl (by omega))
   rw [e,cond_false,D8r hc]
   by_cases h0:j=0
   ·subst h0
    rw [decide_eq_true (by omega:((i+0:Nat):Int)=(i:Int)),cond_true,if_pos (by rfl),Int.toNat_natCast]
   ·rw [decide_eq_false (by omega:¬ ((i+j:Nat):Int)=(i:Int)),cond_false,if_neg (by omega),Int.toNat_natCast,Int.toNat_natCast,show i+j - i=j by omega]
    unfold B6
    rw [show (((i+j:Nat):Int) - 1)+1=((i+(j+0):Nat):Int) by omega];rfl
theorem eb4 (l:List Act) (hg:A8e l):∀ (fu i:Nat) (b:List UInt8),l.length - i<fu→i≤l.length→R2 l fu b (i:Int)=(b++enc (l.drop i),0)
 | 0,i,b,h,_=>by omega
 | fu+1,i,b,h,hi=>by
  rw [R2]
  by_cases hc:i<l.length
  ·rw [decide_eq_true (by omega:(i:Int)<(l.length:Int)),cond_true]
   have h5:=eb5 l (R2 l fu) b i (((l.length:Int) - (i:Int)).toNat+1) 0 (by omega) (by omega)
   rw [show ((i+0:Nat):Int)=(i:Int) by omega] at h5
   rw [h5]
   simp only [Nat.zero_add,Nat.add_zero,Nat.sub_zero]
   have hd:=B2q hc
   by_cases h0:V0 16 (l.drop i)=0
   ·rw [if_pos h0,show (i:Int)+1=((i+1:Nat):Int) by omega,eb4 l hg fu (i+1) _ (by omega) (by omega)]
    have ht:A2u (l.getD i Act.zero)=A6v (l.getD i Act.zero):=D9i (hg _ (by rw [gdE hc];exact List.getElem_mem hc))
    rw [ht,hd,C7a (by rw [← hd];exact h0),List.append_assoc]
   ·have hl:=B8x 16 (l.drop i)
    rw [List.length_drop] at hl
    rw [if_neg h0,eb4 l hg fu _ _ (by omega) (by omega),D7t (hg.drop i),C8e h0,List.drop_drop,List.append_assoc]
  ·rw [decide_eq_false (by omega:¬ (i:Int)<(l.length:Int)),cond_false,List.drop_eq_nil_of_le (by omega),D4e,List.append_nil]
theorem eb0 (L:List Act):∀ (l:List Act) (t:Nat),(∀ a ∈ l,L8 a=0)→Q1 L l t=R2 L (((L.length:Int) - 0).toNat+1) [] 0
 | [],t,_=>rfl
 | a::l,t,h=>by
  rw [Q1,h a (List.mem_cons_self ..)]
  exact eb0 L l (t+1) (fun x hx=>h x (List.mem_cons_of_mem _ hx))
theorem D3l (L:List Act):∀ (l:List Act) (t:Nat),(¬ ∀ a ∈ l,L8 a=0)→Q1 L l t=([],200)
 | [],t,h=>absurd (fun a ha=>by cases ha) h
 | a::l,t,h=>by
  rw [Q1]
  rcases D5y a with e | e
  ·rw [e]
   refine D3l L l (t+1) fun h2=>h fun x hx=>?_
   rcases List.mem_cons.1 hx with rfl | hx
   ·exact e
   ·exact h2 x hx
  ·rw [e];rfl
theorem C4c {l:List Act} (hl:l.length≤131072) (hm:∀ a ∈ l,C1v a.m) (hg:A8e l):N7 l=(enc l,0):=by
 unfold N7
 rw [decide_eq_false (by omega:¬ (131072:Int)<(l.length:Int)),cond_false,eb0 l l 0 (fun a ha=>(C0u (hm a ha)).2 (hg a ha))]
 have:=eb4 l hg (((l.length:Int) - 0).toNat+1) 0 [] (by omega) (Nat.zero_le _)
 rw [List.drop_zero,List.nil_append] at this
 exact this
theorem D4y {l:List Act} (hl:l.length≤131072) (hm:∀ a ∈ l,C1v a.m) (hg:¬ A8e l):N7 l=([],200):=by
 unfold N7
 rw [decide_eq_false (by omega:¬ (131072:Int)<(l.length:Int)),cond_false]
 exact D3l l l 0 fun h=>hg fun a ha=>(C0u (hm a ha)).1 (h a ha)
end Go.Proofs.YtanighkpfmgnbaaGreatDoor
set_option linter.unusedVariables false
set_option linter.unusedSimpArgs false
set_option maxRecDepth 10000
namespace Go.Proofs.YtanighkpfmgnbaaGreatDoor
open Go Go.Fen
theorem B7t {a:Act} {r:List Act} {k:Nat} (h:a.kind≠39):V0 k (a::r)=0:=by
 cases k with
 | zero=>rfl
 | succ k=>exact if_neg h
theorem B4s {a:Act} {r:List Act} {k:Nat} (h:a.kind=39):V0 (k+1) (a::r)=V0 k r+1:=if_pos h
theorem C6q:∀ (k:Nat) (l:List Act) (n:Nat),V0 k l≤n→V0 k (l.take n)=V0 k l
 | 0,l,n,_=>rfl
 | k+1,[],n,_=>by rw [List.take_nil]
 | k+1,a::r,n,h=>by
  by_cases ha:a.kind=39
  ·rw [B4s ha] at h
   obtain ⟨m,rfl⟩:∃ m,n=m+1:=⟨n - 1,by omega⟩
   rw [List.take_succ_cons,B4s ha,B4s ha,C6q k r m (by omega)]
  ·rw [B7t ha]
   cases n with
   | zero=>rfl
   | succ m=>rw [List.take_succ_cons];exact B7t ha
theorem C0n:∀ (k:Nat) (l:List Act) (j:Nat),j<V0 k l→(l.getD j Act.zero).kind=39
 | 0,l,j,h=>by simp [V0] at h
 | k+1,[],j,h=>by simp [V0] at h
 | k+1,a::r,j,h=>by
  by_cases ha:a.kind=39
  ·rw [B4s ha] at h
   cases j with
   | zero=>exact ha
   | succ j=>exact C0n k r j (by omega)
  ·rw [B7t ha] at h;omega
theorem C0j:∀ (m:Nat) (l:List Act) (k:Nat),l.length≤m→k≤l.length→¬ (0<k∧k<l.length∧(l.getD (k - 1) Act.zero).kind=39∧(l.getD k Act.zero).kind=39)→enc l=enc (l.take k)++enc (l.drop k)
 | _,l,0,_,_,_=>by rw [List.take_zero,List.drop_zero,D4e,List.nil_append]
 | _,[],k+1,_,h,_=>by simp at h
 | 0,a::r,k+1,h,_,_=>by simp at h
 | m+1,a::r,k+1,hm,hk,hb=>by
  simp only [List.length_cons] at hm hk
  by_cases h0:V0 16 (a::r)=0
  ·have ha:a.kind≠39:=fun e=>by rw [B4s e] at h0;omega
   rw [C7a h0,List.take_succ_cons,List.drop_succ_cons,C7a (B7t ha),List.append_assoc]
   congr 1
   refine C0j m r k (by omega) (by omega) fun hx=>hb ?_
   obtain ⟨j,rfl⟩:∃ j,k=j+1:=⟨k - 1,by omega⟩
   exact ⟨by omega,by simp only [List.length_cons];omega,hx.2.2.1,hx.2.2.2⟩
  ·by_cases hlt:V0 16 (a::r)≤k+1
   ·have hl:=B8x 16 (a::r)
    have ht:=C6q 16 (a::r) (k+1) hlt
    rw [C8e h0,C8e (l:=(a::r).take (k+1)) (by rw [ht];exact h0),ht,List.append_assoc,List.take_take,Nat.min_eq_left hlt]
    congr 1
    have hd:((a::r).take (k+1)).drop (V0 16 (a::r))=((a::r).drop (V0 16 (a::r))).take (k+1 - V0 16 (a::r)):=by rw [List.drop_take]
    have hdd:((a::r).drop (V0 16 (a::r))).drop (k+1 - V0 16 (a::r))=(a::r).drop (k+1):=by rw [List.drop_drop];congr 1;omega
    have hlen:((a::r).drop (V0 16 (a::r))).length=r.length+1 - V0 16 (a::r):=by rw [List.length_drop,List.length_cons]
    have hge:∀ j,((a::r).drop (V0 16 (a::r))).getD j Act.zero=(a::r).getD (V0 16 (a::r)+j) Act.zero:=fun j=>by
     simp only [List.getD_eq_getElem?_getD,List.getElem?_drop]
    have ih:=C0j m ((a::r).drop (V0 16 (a::r))) (k+1 - V0 16 (a::r)) (by rw [hlen];omega) (by rw [hlen];omega) (fun hx=>hb (by
     rw [hlen,hge,hge] at hx
     refine ⟨by omega,by simp only [List.length_cons];omega,?_,?_⟩
     ·have:=hx.2.2.1;rw [show V0 16 (a::r)+(k+1 - V0 16 (a::r) - 1)=k+1 - 1 by omega] at this;exact this
     ·have:=hx.2.2.2;rw [show V0 16 (a::r)+(k+1 - V0 16 (a::r))=k+1 by omega] at this;exact this))
    rw [ih,hdd,hd]
   ·exfalso
    refine hb ⟨by omega,?_,C0n 16 _ _ (by omega),C0n 16 _ _ (by omega)⟩
    have:=(B8x 16 (a::r)).2
    omega
def E1w (a:Act):Nat:=(pr2 [] [L6 a]).length+1
def cost:Nat→List Act→Nat
 | _,[]=>0
 | f,a::r=>if a.kind=39 then (match f with | 0=>2+E1w a+cost 15 r | f+1=>E1w a+cost f r) else (A6v a).length+cost 0 r
end Go.Proofs.YtanighkpfmgnbaaGreatDoor
set_option linter.unusedVariables false
set_option linter.unusedSimpArgs false
set_option maxRecDepth 10000
namespace Go.Proofs.YtanighkpfmgnbaaGreatDoor
open Go Go.Fen
theorem C4w:∀ (l:List Cel) (t:Nat) (last:Cel),W2 l t last=0→(∀ c ∈ l,N2 c=0)∧(∀ i<l.length,((last::l).getD i Cel.zero).wide=1 ↔ (l.getD i Cel.zero).wide=2)∧((last::l).getD l.length Cel.zero).wide≠1
 | [],t,last,h=>by
  rw [W2] at h
  refine ⟨fun c hc=>(by cases hc),fun i hi=>(by cases hi),fun e=>?_⟩
  have e':last.wide=1:=e
  rw [decide_eq_true e'] at h;exact absurd (show (220:Int)=0 from h) (by decide)
 | x::l,t,last,h=>by
  rw [W2] at h
  cases hb:(((!decide ((N2 x)=0))||(!((decide (last.wide=1)) == (decide (x.wide=2)))))||((decide (x.wide=2))&&(!(decide (x.sty=last.sty))))) with
  | true=>rw [hb] at h;exact absurd (show (220:Int)=0 from h) (by decide)
  | false =>
   rw [hb] at h
   obtain ⟨h1,h2,h3⟩:=C4w l (t+1) x h
   simp only [Bool.or_eq_false_iff,Bool.not_eq_false',decide_eq_true_eq,beq_iff_eq] at hb
   have h0:last.wide=1 ↔ x.wide=2:=decide_eq_decide.1 hb.1.2
   refine ⟨fun c hc=>?_,fun i hi=>?_,h3⟩
   ·rcases List.mem_cons.1 hc with rfl | hc
    ·exact hb.1.1
    ·exact h1 c hc
   ·cases i with
    | zero=>exact h0
    | succ i=>exact h2 i (by simp only [List.length_cons] at hi;omega)
structure RowV (x:List Cel):Prop where
 len:2≤x.length∧x.length≤80
 ok:∀ c ∈ x,N2 c=0
 wide:∀ c ∈ x,0≤c.wide∧c.wide≤2
 next:∀ i<x.length,(x.getD i Cel.zero).wide=1→i+1<x.length∧(x.getD (i+1) Cel.zero).wide=2
 prev:∀ i<x.length,(x.getD i Cel.zero).wide=2→0<i∧(x.getD (i - 1) Cel.zero).wide=1
theorem E7v {x:List Cel} {w:Bool} (h:V6 x w=0):RowV x:=by
 have hk:=A5u h
 unfold V6 at h
 rw [show ((decide ((x.length:Int)<2))||(decide ((80:Int)<(x.length:Int))))=false by simp only [Bool.or_eq_false_iff,decide_eq_false_iff_not];omega,cond_false] at h
 obtain ⟨h1,h2,h3⟩:=C4w x 0 Cel.zero h
 refine ⟨⟨hk.1,hk.2.1⟩,h1,hk.2.2,fun i hi hw=>?_,fun i hi hw=>?_⟩
 ·by_cases hn:i+1<x.length
  ·exact ⟨hn,(h2 (i+1) hn).1 hw⟩
  ·have e:x.length=i+1:=by omega
   rw [e] at h3;exact absurd hw h3
 ·have:=(h2 i hi).2 hw
  cases i with
  | zero=>exact absurd (show (0:Int)=1 from this) (by decide)
  | succ i=>exact ⟨Nat.succ_pos _,this⟩
def ext (c1:Int) (c2:List Cel):Nat→Prn→Prn
 | 0,r=>r
 | fu+1,r=>if r.til<c1∧c2.getD r.til.toNat Cel.zero=r.sign then ext c1 c2 fu {r with many:=r.many+1,til:=r.til+(1+r.sign.wide)} else r
structure RunB (c1:Int) (c2:List Cel):Prop where
 wide:∀ c ∈ c2,0≤c.wide∧c.wide≤2
 len:c2.length≤80
 lim:c1≤c2.length
theorem RowV.runB {x:List Cel} (h:RowV x) {c1:Int} (hc:c1≤x.length):RunB c1 x:=⟨h.wide,h.len.2,hc⟩
theorem B5w {c1:Int} {c2:List Cel} (hb:RunB c1 c2) {r:Prn} (h:r.til<c1∧c2.getD r.til.toNat Cel.zero=r.sign) (h0:0≤r.til):0≤r.sign.wide∧r.sign.wide≤2:=by
 have:=hb.lim
 have hlt:r.til.toNat<c2.length:=by omega
 rw [← h.2,gdE hlt];exact hb.wide _ (List.getElem_mem hlt)
theorem D9a {c1:Int} {c2:List Cel} (hb:RunB c1 c2) (ag:Int→List Prn):∀ (fu:Nat) (r:Prn),0≤r.til→0≤r.many→r.many≤r.til→r.til≤90→(c1 - r.til).toNat<fu→O5 c1 c2 ag fu r=ext c1 c2 fu r::ag (ext c1 c2 fu r).til
 | 0,r,_,_,_,_,h=>by omega
 | fu+1,r,h0,hm,hmt,h9,h=>by
  rw [O5,ext]
  by_cases c:r.til<c1∧c2.getD r.til.toNat Cel.zero=r.sign
  ·have hw:=B5w hb c h0
   have:=hb.lim
   have:=hb.len
   rw [if_pos c,decide_eq_true c.1,decide_eq_true c.2,Bool.and_self,cond_true,wr6 (x:=1+r.sign.wide) (by omega),wr6 (x:=r.many+1) (by omega),wr6 (x:=r.til+(1+r.sign.wide)) (by omega)]
   exact D9a hb ag fu _ (by show 0≤r.til+(1+r.sign.wide);omega) (by show 0≤r.many+1;omega) (by show r.many+1≤r.til+(1+r.sign.wide);omega) (by show r.til+(1+r.sign.wide)≤90;omega) (by show (c1 - (r.til+(1+r.sign.wide))).toNat<fu;omega)
  ·rw [if_neg c,show (decide (r.til<c1)&&decide (c2.getD r.til.toNat Cel.zero=r.sign))=false by simp only [Bool.and_eq_false_iff,decide_eq_false_iff_not];exact Decidable.not_and_iff_or_not.1 c,cond_false]
theorem C8r {c1:Int} {c2:List Cel} (hb:RunB c1 c2):∀ (fu fu':Nat) (r:Prn),0≤r.til→(c1 - r.til).toNat<fu→(c1 - r.til).toNat<fu'→ext c1 c2 fu r=ext c1 c2 fu' r
 | 0,_,r,_,h,_=>by omega
 | _,0,r,_,_,h=>by omega
 | fu+1,fu'+1,r,h0,h,h'=>by
  rw [ext,ext]
  by_cases c:r.til<c1∧c2.getD r.til.toNat Cel.zero=r.sign
  ·have hw:=B5w hb c h0
   rw [if_pos c,if_pos c]
   exact C8r hb fu fu' _ (by show 0≤r.til+(1+r.sign.wide);omega) (by show (c1 - (r.til+(1+r.sign.wide))).toNat<fu;omega) (by show (c1 - (r.til+(1+r.sign.wide))).toNat<fu';omega)
  ·rw [if_neg c,if_neg c]
def B4t (c2:List Cel) (t:Int):Prn:={Prn.zero with sign:=c2.getD t.toNat Cel.zero,at_:=t,til:=t}
def B0n (c1:Int) (c2:List Cel) (t:Int):Prn:=ext c1 c2 ((c1 - t).toNat+1) (B4t c2 t)
theorem D2x {c1:Int} {c2:List Cel} (hb:RunB c1 c2):∀ (fu:Nat) (r:Prn),0≤r.til→r.til≤(ext c1 c2 fu r).til∧(ext c1 c2 fu r).sign=r.sign∧(ext c1 c2 fu r).at_=r.at_
 | 0,r,_=>⟨Int.le_refl _,rfl,rfl⟩
 | fu+1,r,h0=>by
  rw [ext]
  by_cases c:r.til<c1∧c2.getD r.til.toNat Cel.zero=r.sign
  ·have hw:=B5w hb c h0
   rw [if_pos c]
   have ih:=D2x hb fu {r with many:=r.many+1,til:=r.til+(1+r.sign.wide)} (by show 0≤r.til+(1+r.sign.wide);omega)
   refine ⟨?_,ih.2⟩
   have h1:r.til+(1+r.sign.wide)≤_:=ih.1
   omega
  ·rw [if_neg c];exact ⟨Int.le_refl _,rfl,rfl⟩
theorem B8t {c1:Int} {c2:List Cel} (hb:RunB c1 c2) {t:Int} (h0:0≤t) (h:t<c1):t<(B0n c1 c2 t).til∧(B0n c1 c2 t).at_=t∧(B0n c1 c2 t).sign=c2.getD t.toNat Cel.zero:=by
 unfold B0n
 have hc:(B4t c2 t).til<c1∧c2.getD (B4t c2 t).til.toNat Cel.zero=(B4t c2 t).sign:=⟨h,rfl⟩
 have hw:=B5w hb hc h0
 have hg:=D2x hb ((c1 - t).toNat+1) (B4t c2 t) h0
 refine ⟨?_,hg.2.2,hg.2.1⟩
 rw [ext,if_pos hc]
 have ih:=D2x hb ((c1 - t).toNat) {B4t c2 t with many:=(B4t c2 t).many+1,til:=(B4t c2 t).til+(1+(B4t c2 t).sign.wide)} (by show 0≤t+(1+(B4t c2 t).sign.wide);omega)
 exact Int.lt_of_lt_of_le (by show t<t+(1+(B4t c2 t).sign.wide);have:0≤(B4t c2 t).sign.wide:=hw.1;omega) ih.1
theorem C8o {c1:Int} {c2:List Cel} {fu:Nat} {t:Int} (h:¬ t<c1):I4 c1 c2 fu t=[]:=by
 cases fu with
 | zero=>rfl
 | succ fu=>rw [I4,decide_eq_false h,cond_false]
theorem C8a {c1:Int} {c2:List Cel} (hb:RunB c1 c2) {fu:Nat} {t:Int} (h0:0≤t) (h:t<c1):I4 c1 c2 (fu+1) t=B0n c1 c2 t::I4 c1 c2 fu (B0n c1 c2 t).til:=by
 have:=hb.lim
 have:=hb.len
 rw [I4,decide_eq_true h,cond_true]
 exact D9a hb _ _ (B4t c2 t) h0 (Int.le_refl 0) h0 (by show t≤90;omega) (Nat.lt_succ_self _)
theorem D3v {c1:Int} {c2:List Cel} (hb:RunB c1 c2):∀ (fu fu':Nat) (t:Int),0≤t→(c1 - t).toNat<fu→(c1 - t).toNat<fu'→I4 c1 c2 fu t=I4 c1 c2 fu' t
 | 0,_,t,_,h,_=>by omega
 | _,0,t,_,_,h=>by omega
 | fu+1,fu'+1,t,h0,h,h'=>by
  by_cases c:t<c1
  ·have:=B8t hb h0 c
   rw [C8a hb h0 c,C8a hb h0 c,D3v hb fu fu' _ (by omega) (by omega) (by omega)]
  ·rw [C8o c,C8o c]
def A1s (c1:Int) (c2:List Cel) (t:Int):List Prn:=I4 c1 c2 ((c1 - t).toNat+1) t
theorem B6z {c1:Int} {c2:List Cel} {t:Int} (h:¬ t<c1):A1s c1 c2 t=[]:=C8o h
theorem A7g {c1:Int} {c2:List Cel} (hb:RunB c1 c2) {t:Int} (h0:0≤t) (h:t<c1):A1s c1 c2 t=B0n c1 c2 t::A1s c1 c2 (B0n c1 c2 t).til:=by
 have:=B8t hb h0 h
 unfold A1s
 rw [C8a hb h0 h,D3v hb _ ((c1 - (B0n c1 c2 t).til).toNat+1) _ (by omega) (by omega) (Nat.lt_succ_self _)]
abbrev D6h:=List Act×Sty×Int×Bool
abbrev C9g:=Int×List Act×Sty×Int
def bad (c:Int) (x:D6h):Bool:=((!x.2.2.2)||(!decide ((N7 x.1).2=0)))||(decide ((0:Int)≤c)&&decide (c≤((N7 x.1).1.length:Int)))
def sel (b:C9g) (x:D6h):C9g:=bif bad b.1 x then b else (((N7 x.1).1.length:Int),x.1,x.2.1,x.2.2.1)
def A8q:C9g:=(-1,[],⟨0,0,⟨0,0⟩,⟨0,0⟩,⟨0,0⟩⟩,0)
def cP (s:Sty) (r:Prn):D6h:=K5 s [] 0 r false
def cR (s:Sty) (r:Prn):D6h:=K0 s [] 0 r false
def cB (s:Sty) (r:Prn) (last:Bool):D6h:=J5 s [] 0 r last
def A6s (s:Sty) (r:Prn) (last:Bool):C9g:=sel (sel (sel A8q (cP s r)) (cR s r)) (cB s r last)
theorem E0s (s:Sty) (pl:List Act) (pat:Int) (r:Prn) (last:Bool):N5 s pl pat r last=(pl++(A6s s r last).2.1,(A6s s r last).2.2.1,(A6s s r last).2.2.2):=by
 have eP:K5 s pl pat r last=cP s r:=rfl
 have eR:K0 s pl pat r last=cR s r:=rfl
 have eB:J5 s pl pat r last=cB s r last:=rfl
 have j5:∀ (p:C9g),K4 pl p.1 p.2.1 p.2.2.1 p.2.2.2=(pl++p.2.1,p.2.2.1,p.2.2.2):=fun p=>rfl
 have j4:∀ (p:C9g),J3 s pl pat r last p.1 p.2.1 p.2.2.1 p.2.2.2=(pl++(sel p (cB s r last)).2.1,(sel p (cB s r last)).2.2.1,(sel p (cB s r last)).2.2.2):=fun p=>by
  unfold J3 B6
  rw [eB]
  show (bif bad p.1 (cB s r last) then _ else _)=_
  unfold sel
  cases bad p.1 (cB s r last)<;>rfl
 have j3:∀ (p:C9g),H3 s pl pat r last p.1 p.2.1 p.2.2.1 p.2.2.2=(pl++(sel (sel p (cR s r)) (cB s r last)).2.1,(sel (sel p (cR s r)) (cB s r last)).2.2.1,(sel (sel p (cR s r)) (cB s r last)).2.2.2):=fun p=>by
  unfold H3 B6
  rw [eR]
  show (bif bad p.1 (cR s r) then _ else _)=_
  cases h:bad p.1 (cR s r) with
  | true=>rw [cond_true,j4 p,show sel p (cR s r)=p by unfold sel;rw [h];rfl]
  | false =>
   have e:sel p (cR s r)=(((N7 (cR s r).1).1.length:Int),(cR s r).1,(cR s r).2.1,(cR s r).2.2.1):=by unfold sel;rw [h];rfl
   rw [cond_false,e];exact j4 (((N7 (cR s r).1).1.length:Int),(cR s r).1,(cR s r).2.1,(cR s r).2.2.1)
 unfold N5 B6
 rw [eP]
 show (bif bad (-1) (cP s r) then H3 s pl pat r last A8q.1 A8q.2.1 A8q.2.2.1 A8q.2.2.2 else H3 s pl pat r last ((N7 (cP s r).1).1.length:Int) (cP s r).1 (cP s r).2.1 (cP s r).2.2.1)=_
 unfold A6s
 cases h:bad (-1) (cP s r) with
 | true=>rw [cond_true,show sel A8q (cP s r)=A8q by unfold sel;rw [show A8q.1=-1 from rfl,h];rfl];exact j3 A8q
 | false =>
  have e:sel A8q (cP s r)=(((N7 (cP s r).1).1.length:Int),(cP s r).1,(cP s r).2.1,(cP s r).2.2.1):=by unfold sel;rw [show A8q.1=-1 from rfl,h];rfl
  rw [cond_false,e];exact j3 (((N7 (cP s r).1).1.length:Int),(cP s r).1,(cP s r).2.1,(cP s r).2.2.1)
theorem A4k (to_:Int) (x:Prn) (l:List Prn) (s:Sty) (bl:List Act) (t:Int):D9 to_ (x::l) s bl t=D9 to_ l (A6s s x (decide (x.til=to_))).2.2.1 (bl++(A6s s x (decide (x.til=to_))).2.1) (A6s s x (decide (x.til=to_))).2.2.2:=by
 rw [D9,E0s];rfl
theorem C3q (to_:Int):∀ (l:List Prn) (s:Sty) (bl:List Act) (t:Int),D9 to_ l s bl t=(bl++(D9 to_ l s [] t).1,(D9 to_ l s [] t).2)
 | [],s,bl,t=>by
  show (bl,s,t,(0:Int))=(bl++[],s,t,0)
  rw [List.append_nil]
 | x::l,s,bl,t=>by
  rw [A4k,A4k,C3q to_ l _ (bl++_) _,C3q to_ l _ ([]++_) _,List.nil_append,List.append_assoc]
theorem C6c (to_:Int):∀ (l m:List Prn) (s:Sty) (bl:List Act) (t:Int),D9 to_ (l++m) s bl t=D9 to_ m (D9 to_ l s bl t).2.1 (D9 to_ l s bl t).1 (D9 to_ l s bl t).2.2.1
 | [],m,s,bl,t=>rfl
 | x::l,m,s,bl,t=>by rw [List.cons_append,A4k,A4k];exact C6c to_ l m _ _ _
structure SpanOk (x:List Cel) (from_ to_:Int) (s:Sty):Prop where
 row:RowV x
 sty:F1 s=0
 lim:0≤from_∧from_≤to_∧to_≤x.length
 f2:from_<x.length→(x.getD from_.toNat Cel.zero).wide≠2
 t2:to_<x.length→(x.getD to_.toNat Cel.zero).wide≠2
 is:G7 x from_ to_ s=D9 to_ (A1s to_ x from_) s [] to_
theorem C2k {x:List Cel} {from_ to_:Int} {s:Sty} (h:(G7 x from_ to_ s).2.2.2=0):SpanOk x from_ to_ s:=by
 unfold G7 at h
 by_cases hr:V6 x false=0
 ·rw [decide_eq_true hr,cond_true] at h
  have h':=h
  unfold R1 at h
  by_cases h0:F1 s=0
  ·rw [decide_eq_true h0,Bool.not_true,cond_false] at h
   cases hc:(((((decide (from_<0))||(decide (to_<from_)))||(decide ((x.length:Int)<to_)))||((decide (from_<(x.length:Int)))&&(decide ((x.getD ((from_).toNat) Cel.zero).wide=2))))||((decide (to_<(x.length:Int)))&&(decide ((x.getD ((to_).toNat) Cel.zero).wide=2)))) with
   | true=>rw [hc] at h;exact absurd (show (2:Int)=0 from h) (by decide)
   | false =>
    have hc':=hc
    simp only [Bool.or_eq_false_iff,Bool.and_eq_false_iff,decide_eq_false_iff_not] at hc
    refine ⟨E7v hr,h0,⟨by omega,by omega,by omega⟩,fun hl=>hc.1.2.resolve_left (fun n=>n hl),fun hl=>hc.2.resolve_left (fun n=>n hl),?_⟩
    unfold G7
    rw [decide_eq_true hr,cond_true]
    unfold R1
    rw [decide_eq_true h0,Bool.not_true,cond_false,hc',cond_false]
    rfl
  ·rw [decide_eq_false h0,Bool.not_false,cond_true] at h;exact absurd h h0
 ·rw [decide_eq_false hr,cond_false] at h
  unfold R1 at h
  rw [decide_eq_false hr,Bool.not_false,cond_true] at h;exact absurd h hr
end Go.Proofs.YtanighkpfmgnbaaGreatDoor
set_option linter.unusedVariables false
set_option linter.unusedSimpArgs false
set_option maxRecDepth 10000
namespace Go.Proofs.YtanighkpfmgnbaaGreatDoor
open Go Go.Fen
def AtC (x:List Cel) (t:Int):Prop:=t<x.length→(x.getD t.toNat Cel.zero).wide≠2
theorem E4d {x:List Cel} {t:Int} (h0:0≤t) (k:Nat):x.getD (t+k).toNat Cel.zero=x.getD (t.toNat+k) Cel.zero:=by
 rw [show (t+(k:Int)).toNat=t.toNat+k by omega]
theorem D3f {x:List Cel} (hv:RowV x) {t:Int} (h0:0≤t) (ht:t<x.length) (h2:(x.getD t.toNat Cel.zero).wide≠2):0≤(x.getD t.toNat Cel.zero).wide∧(x.getD t.toNat Cel.zero).wide≤1∧AtC x (t+(1+(x.getD t.toNat Cel.zero).wide))∧((x.getD t.toNat Cel.zero).wide=1→t+1<x.length∧(x.getD (t+1).toNat Cel.zero).wide=2):=by
 have hlt:t.toNat<x.length:=by omega
 have hw:=hv.wide _ (List.getElem_mem hlt)
 rw [← gdE (d:=Cel.zero) hlt] at hw
 have h1:(x.getD t.toNat Cel.zero).wide=1→t+1<x.length∧(x.getD (t+1).toNat Cel.zero).wide=2:=fun e=>by
  obtain ⟨g1,g2⟩:=hv.next t.toNat hlt e
  have:=E4d (x:=x) h0 1
  exact ⟨by omega,by rw [show t+1=t+((1:Nat):Int) from rfl,this];exact g2⟩
 refine ⟨hw.1,by omega,fun hl hc=>?_,h1⟩
 by_cases e:(x.getD t.toNat Cel.zero).wide=1
 ·rw [e] at hl hc
  have e2:(t+(1+1)).toNat=t.toNat+2:=by omega
  rw [e2] at hc
  have:=(hv.prev (t.toNat+2) (by omega) hc).2
  obtain ⟨g1,g2⟩:=h1 e
  rw [show (t+1).toNat=t.toNat+2 - 1 by omega] at g2
  omega
 ·have e0:(x.getD t.toNat Cel.zero).wide=0:=by omega
  rw [e0] at hl hc
  have e2:(t+(1+0)).toNat=t.toNat+1:=by omega
  rw [e2] at hc
  have:=(hv.prev (t.toNat+1) (by omega) hc).2
  rw [show t.toNat+1 - 1=t.toNat by omega] at this
  omega
theorem D7c {x:List Cel} (hv:RowV x) {c1:Int} (hc:c1≤x.length):∀ (fu:Nat) (r:Prn),0≤r.til→AtC x r.til→r.sign.wide≠2→AtC x (ext c1 x fu r).til
 | 0,r,_,h,_=>h
 | fu+1,r,h0,h,h2=>by
  rw [ext]
  by_cases c:r.til<c1∧x.getD r.til.toNat Cel.zero=r.sign
  ·rw [if_pos c]
   have hs:=D3f hv h0 (by omega) (by rw [c.2];exact h2)
   rw [c.2] at hs
   exact D7c hv hc fu _ (by show 0≤r.til+(1+r.sign.wide);omega) hs.2.2.1 h2
  ·rw [if_neg c];exact h
structure CutAt (x:List Cel) (mid to_:Int):Prop where
 lt:0<mid∧mid<to_∧to_≤x.length
 at_:(x.getD mid.toNat Cel.zero).wide≠2
 ne:x.getD mid.toNat Cel.zero≠x.getD (mid - 1).toNat Cel.zero
 pw:(x.getD (mid - 1).toNat Cel.zero).wide≠2
theorem D4k {x:List Cel} (hv:RowV x) {mid to_:Int} (hk:CutAt x mid to_):∀ (fu:Nat) (r:Prn),0≤r.til→r.til≤mid→r.sign.wide≠2→(r.til=mid→r.sign=x.getD (mid - 1).toNat Cel.zero)→ext to_ x fu r=ext mid x fu r∧(ext mid x fu r).til≤mid
 | 0,r,_,h,_,_=>⟨rfl,h⟩
 | fu+1,r,h0,hm,h2,hl=>by
  have hlt:=hk.lt
  rw [ext,ext]
  by_cases e:r.til=mid
  ·have c1:¬ (r.til<to_∧x.getD r.til.toNat Cel.zero=r.sign):=fun c=>hk.ne (by rw [← hl e,← c.2,e])
   have c2:¬ (r.til<mid∧x.getD r.til.toNat Cel.zero=r.sign):=fun c=>by omega
   rw [if_neg c1,if_neg c2];exact ⟨rfl,hm⟩
  ·by_cases c:x.getD r.til.toNat Cel.zero=r.sign
   ·rw [if_pos (show r.til<to_∧_ from ⟨by omega,c⟩),if_pos (show r.til<mid∧_ from ⟨by omega,c⟩)]
    have hs:=D3f hv h0 (by omega) (by rw [c];exact h2)
    rw [c] at hs
    have hle:r.til+(1+r.sign.wide)≤mid∧(r.til+(1+r.sign.wide)=mid→r.sign=x.getD (mid - 1).toNat Cel.zero):=by
     by_cases w1:r.sign.wide=1
     ·obtain ⟨g1,g2⟩:=hs.2.2.2 w1
      rw [w1]
      have n1:r.til+1≠mid:=fun e1=>hk.at_ (by rw [← e1];exact g2)
      have n2:r.til+(1+1)≠mid:=fun e1=>hk.pw (by rw [← e1,show r.til+(1+1) - 1=r.til+1 by omega];exact g2)
      exact ⟨by omega,fun e1=>absurd e1 n2⟩
     ·have w0:r.sign.wide=0:=by omega
      rw [w0]
      exact ⟨by omega,fun e1=>by rw [← c,← e1,show r.til+(1+0) - 1=r.til by omega]⟩
    exact D4k hv hk fu _ (by show 0≤r.til+(1+r.sign.wide);omega) hle.1 h2 hle.2
   ·rw [if_neg (fun q=>c q.2),if_neg (fun q=>c q.2)];exact ⟨rfl,hm⟩
theorem C9n {x:List Cel} (hv:RowV x) {mid to_:Int} (hk:CutAt x mid to_) {t:Int} (h0:0≤t) (h:t<mid) (ha:AtC x t):B0n to_ x t=B0n mid x t∧(B0n mid x t).til≤mid∧AtC x (B0n mid x t).til:=by
 have hlt:=hk.lt
 have hc:=D4k hv hk ((to_ - t).toNat+1) (B4t x t) h0 (by show t≤mid;omega) (ha (by omega)) (fun e=>by have e':t=mid:=e;omega)
 have hb:RunB mid x:=hv.runB (by omega)
 have e2:ext mid x ((to_ - t).toNat+1) (B4t x t)=ext mid x ((mid - t).toNat+1) (B4t x t):=C8r hb _ _ _ h0 (by show (mid - t).toNat<_;omega) (by show (mid - t).toNat<_;omega)
 have e3:B0n mid x t=ext mid x ((to_ - t).toNat+1) (B4t x t):=e2.symm
 refine ⟨by rw [e3,← hc.1];rfl,by rw [e3];exact hc.2,D7c hv (by omega) _ _ h0 ha (ha (by omega))⟩
theorem C9x {x:List Cel} (hv:RowV x) {mid to_:Int} (hk:CutAt x mid to_):∀ (k:Nat) (t:Int),(mid - t).toNat≤k→0≤t→t≤mid→AtC x t→A1s to_ x t=A1s mid x t++A1s to_ x mid
 | k,t,hn,h0,ht,ha=>by
  have hlt:=hk.lt
  by_cases e:t=mid
  ·rw [e,B6z (c1:=mid) (t:=mid) (by omega),List.nil_append]
  ·have hE:=C9n hv hk h0 (by omega) ha
   have hg:=B8t (hv.runB (c1:=mid) (by omega)) h0 (by omega:t<mid)
   cases k with
   | zero=>omega
   | succ k =>
    rw [A7g (hv.runB hlt.2.2) h0 (by omega),A7g (hv.runB (c1:=mid) (by omega)) h0 (by omega),hE.1,List.cons_append,C9x hv hk k _ (by omega) (by omega) hE.2.1 hE.2.2]
theorem E2e {f t:Sty} (ht:0≤t.under∧t.under≤5):∀ a ∈ chg f t,C1v a.m:=by
 intro a ha
 have hb:∀ b ∈ C5z,0≤b∧b≤128:=by decide
 have hk:∀ n m,0≤m→m≤128→C1v (kA n m).m:=fun n m h1 h2=>⟨by show -9223372036854775808≤m;omega,by show m≤9223372036854775807;omega⟩
 have hc:∀ n c,C1v (kC n c).m:=fun n c=>⟨by show (-9223372036854775808:Int)≤0;omega,by show (0:Int)≤9223372036854775807;omega⟩
 unfold chg D5o D0k B8n at ha
 simp only [List.mem_append,List.mem_flatMap] at ha
 rcases ha with h | ⟨b,hbb,h⟩ | ⟨b,hbb,h⟩ | h | h | h | h<;>rw [C5v h]
 ·exact hk _ _ (by omega) (by omega)
 ·exact hk _ _ (hb b hbb).1 (hb b hbb).2
 ·exact hk _ _ (hb b hbb).1 (hb b hbb).2
 ·exact hk _ _ ht.1 (by omega)
 ·exact hc _ _
 ·exact hc _ _
 ·exact hc _ _
theorem D5v {f t:Sty} (ht:0≤t.under∧t.under≤5):∀ a ∈ (A0t f t).1,C1v a.m:=by
 have h:=E2e (f:=f) ht
 rw [← A3s] at h
 unfold A0t;simp only [B6,Bool.cond_eq_ite];repeat' split
 all_goals first|exact h|simp
theorem E4t {t:Sty} (ht:0≤t.under∧t.under≤5):∀ a ∈ A7o t,C1v a.m:=by
 rw [B4x]
 intro a ha
 rcases List.mem_cons.1 ha with rfl | ha
 ·exact ⟨by decide,by decide⟩
 ·exact E2e ht a ha
theorem E0m {f t:Sty} (ht:0≤t.under∧t.under≤5):∀ a ∈ (A2y f t).1,C1v a.m:=by
 have h:=D5v (f:=f) ht;have h2:=E4t ht
 unfold A2y;simp only [B6,Bool.cond_eq_ite];repeat' split
 all_goals first|exact h2|exact h|simp
theorem A8e.app {l m:List Act}:A8e (l++m) ↔ A8e l∧A8e m:=⟨fun h=>⟨fun a ha=>h a (List.mem_append_left _ ha),fun a ha=>h a (List.mem_append_right _ ha)⟩,fun h a ha=>(List.mem_append.1 ha).elim (h.1 a) (h.2 a)⟩
theorem D8i {l:List Act} {a:Act} (ha:a.kind≠39):enc (l++[a])=enc l++enc [a]:=by
 have h:=C0j (l++[a]).length (l++[a]) l.length (Nat.le_refl _) (by simp) (fun hx=>ha (by
  have:=hx.2.2.2
  rwa [List.getD_eq_getElem?_getD,List.getElem?_append_right (Nat.le_refl _),Nat.sub_self] at this))
 rwa [List.take_left,List.drop_left] at h
theorem D6p {l:List Act} {a:Act} {c:Int} {s s':Sty} {t t':Int} (hl:l.length≤1000) (hm:∀ x ∈ l,C1v x.m) (ham:C1v a.m) (ha:a.kind≠39) (h:bad c (l,s,t,true)=true):bad c (l++[a],s',t',true)=true:=by
 have hm2:∀ x ∈ l++[a],C1v x.m:=fun x hx=>by
  rcases List.mem_append.1 hx with hx | hx
  ·exact hm x hx
  ·rw [List.mem_singleton.1 hx];exact ham
 unfold bad at h ⊢
 simp only [Bool.not_true,Bool.false_or] at h ⊢
 by_cases hg:A8e (l++[a])
 ·have hgl:=(A8e.app.1 hg).1
  rw [C4c (by omega) hm hgl] at h
  rw [C4c (by simp;omega) hm2 hg,D8i ha]
  simp only [decide_true,Bool.not_true,Bool.false_or,Bool.and_eq_true,decide_eq_true_eq] at h ⊢
  exact ⟨h.1,by rw [List.length_append];omega⟩
 ·rw [D4y (by simp;omega) hm2 hg];rfl
theorem D8y {s:Sty} (h:F1 s=0):0≤s.under∧s.under≤5:=by
 unfold F1 at h
 by_cases hu:0≤s.under∧s.under≤5
 ·exact hu
 ·exfalso
  rw [show (((!decide ((bOp .andNot .i64 s.attr 255)=0))||(decide (s.under<0)))||(decide ((5:Int)<s.under)))=true by simp only [Bool.or_eq_true,decide_eq_true_eq];omega] at h
  exact absurd (show (140:Int)=0 from h) (by decide)
theorem E6z (s:Sty) (r:Prn):(cB s r true=cB s r false)∨∃ (l:List Act) (s':Sty),l=(A2y s {s with back:=r.sign.sty.back}).1++([{Act.zero with kind:=30,n:=r.many}]:List Act)∧cB s r true=(l,s',r.at_,true)∧cB s r false=(l++([{Act.zero with kind:=20,n:=2,m:=r.many}]:List Act),s',r.til,true):=by
 unfold cB J5
 cases (((!(Z9 r.sign))||(!decide (r.sign.base=32)))||(!(decide (r.sign.sty={Sty.zero with back:=r.sign.sty.back})))) with
 | true=>exact .inl rfl
 | false=>exact .inr ⟨_,_,rfl,rfl,rfl⟩
theorem D5z {s:Sty} {r:Prn} (hs:F1 s=0) (hr:r.at_<r.til) (hm:0≤r.many∧r.many≤100) (h:(A6s s r true).2.2.2=r.til):(A6s s r true).2=(A6s s r false).2:=by
 have hu:=D8y hs
 unfold A6s at h ⊢
 generalize sel (sel A8q (cP s r)) (cR s r)=q at h ⊢
 rcases E6z s r with e | ⟨l,s',hl,e1,e2⟩
 ·rw [e]
 ·rw [e1] at h
  rw [e1,e2]
  cases hb:bad q.1 (l,s',r.at_,true) with
  | false =>
   exfalso
   unfold sel at h
   rw [hb,cond_false] at h
   have h':r.at_=r.til:=h
   omega
  | true =>
   have hb2:bad q.1 (l++([{Act.zero with kind:=20,n:=2,m:=r.many}]:List Act),s',r.til,true)=true:=by
    refine D6p ?_ ?_ ⟨by show -9223372036854775808≤r.many;omega,by show r.many≤9223372036854775807;omega⟩ (by show (20:Int)≠39;decide) hb
    ·rw [hl,List.length_append];have:=B1w s {s with back:=r.sign.sty.back};simp only [List.length_cons,List.length_nil];omega
    ·intro x hx
     rw [hl] at hx
     rcases List.mem_append.1 hx with hx | hx
     ·exact E0m (f:=s) (t:={s with back:=r.sign.sty.back}) hu x hx
     ·rw [List.mem_singleton.1 hx];exact ⟨by show (-9223372036854775808:Int)≤0;omega,by show (0:Int)≤9223372036854775807;omega⟩
   unfold sel
   rw [hb,hb2,cond_true,cond_true]
theorem D6d {x:List Cel} {c1:Int} (hv:RowV x) (hc:c1≤x.length) {t:Int} (h0:0≤t):∀ r ∈ A1s c1 x t,0≤r.many∧r.many≤100 :=
 (A5g c1 x hv.wide hc hv.len.2 ((c1 - t).toNat+1) t h0).2
theorem D2u {s:Sty} {r:Prn} {last:Bool}:(A6s s r last).2.2.1=A8q.2.2.1∨(A6s s r last).2.2.1=(cP s r).2.1∨(A6s s r last).2.2.1=(cR s r).2.1∨(A6s s r last).2.2.1=(cB s r last).2.1:=by
 have hsel:∀ (q:C9g) (c:D6h),(sel q c).2.2.1=q.2.2.1∨(sel q c).2.2.1=c.2.1:=fun q c=>by
  unfold sel;cases bad q.1 c with
  | true=>exact .inl rfl
  | false=>exact .inr rfl
 unfold A6s
 rcases hsel (sel (sel A8q (cP s r)) (cR s r)) (cB s r last) with h | h
 ·rcases hsel (sel A8q (cP s r)) (cR s r) with h2 | h2
  ·rcases hsel A8q (cP s r) with h3 | h3
   ·exact .inl (h.trans (h2.trans h3))
   ·exact .inr (.inl (h.trans (h2.trans h3)))
  ·exact .inr (.inr (.inl (h.trans h2)))
 ·exact .inr (.inr (.inr h))
theorem D5h (s:Sty):F1 s=0 ↔ ((bOp .andNot .i64 s.attr 255)=0∧0≤s.under∧s.under≤5)∧C8 s.fore=0∧C8 s.back=0∧C8 s.line=0:=by
 unfold F1
 by_cases h1:(bOp .andNot .i64 s.attr 255)=0∧0≤s.under∧s.under≤5
 ·rw [show (((!decide ((bOp .andNot .i64 s.attr 255)=0))||(decide (s.under<0)))||(decide ((5:Int)<s.under)))=false by simp only [Bool.or_eq_false_iff,Bool.not_eq_false',decide_eq_true_eq,decide_eq_false_iff_not];omega,cond_false]
  by_cases h2:C8 s.fore=0
  ·rw [decide_eq_true h2,Bool.not_true,cond_false]
   by_cases h3:C8 s.back=0
   ·rw [decide_eq_true h3,Bool.not_true,cond_false]
    by_cases h4:C8 s.line=0
    ·rw [decide_eq_true h4];exact ⟨fun _=>⟨h1,h2,h3,h4⟩,fun _=>rfl⟩
    ·rw [decide_eq_false h4];exact ⟨fun h=>absurd h h4,fun h=>absurd h.2.2.2 h4⟩
   ·rw [decide_eq_false h3];exact ⟨fun h=>absurd h h3,fun h=>absurd h.2.2.1 h3⟩
  ·rw [decide_eq_false h2];exact ⟨fun h=>absurd h h2,fun h=>absurd h.2.1 h2⟩
 ·rw [show (((!decide ((bOp .andNot .i64 s.attr 255)=0))||(decide (s.under<0)))||(decide ((5:Int)<s.under)))=true by
   simp only [Bool.or_eq_true,Bool.not_eq_true',decide_eq_true_eq,decide_eq_false_iff_not]
   by_cases h5:(bOp .andNot .i64 s.attr 255)=0
   ·have:¬ (0≤s.under∧s.under≤5):=fun h=>h1 ⟨h5,h⟩
    omega
   ·exact .inl (.inl h5),cond_true]
  exact ⟨fun h=>absurd h (by decide),fun h=>absurd h.1 h1⟩
theorem D7m {s t:Sty} (hs:F1 s=0) (ht:F1 t=0):F1 {s with back:=t.back}=0:=by
 rw [D5h] at hs ht ⊢
 exact ⟨hs.1,hs.2.1,ht.2.2.1,hs.2.2.2⟩
theorem B9g:F1 Sty.zero=0:=by decide +kernel
theorem D7o {c:Cel} (h:N2 c=0):F1 c.sty=0:=by
 unfold N2 at h
 by_cases hs:F1 c.sty=0
 ·exact hs
 ·rw [decide_eq_false hs,Bool.not_false,Bool.or_true,cond_true] at h;exact absurd (show (221:Int)=0 from h) (by decide)
theorem C1e (r:Prn):∀ (fu:Nat) (l:List Act) (t:Nat),(G4 r fu l t).2.1=Sty.zero∨(G4 r fu l t).2.1=r.sign.sty
 | 0,l,t=>.inl rfl
 | fu+1,l,t=>by
  rw [G4]
  cases decide ((t:Int)<r.many) with
  | true=>rw [cond_true,B6];exact C1e r fu _ _
  | false=>exact .inr rfl
theorem D6r {s:Sty} {r:Prn} {last:Bool} (hs:F1 s=0) (hr:F1 r.sign.sty=0):F1 (A6s s r last).2.2.1=0:=by
 rcases D2u (s:=s) (r:=r) (last:=last) with h | h | h | h<;>rw [h]
 ·exact B9g
 ·unfold cP K5 B6
  rcases C1e r ((r.many - (0:Int)).toNat+1) (A1 s [] 0 r.sign.sty) 0 with h | h
  ·exact (congrArg F1 h).trans B9g
  ·exact (congrArg F1 h).trans hr
 ·unfold cR K0 B6
  cases ((decide (r.many<2))||(!(Z9 r.sign))) with
  | true=>exact B9g
  | false=>exact hr
 ·unfold cB J5
  cases (((!(Z9 r.sign))||(!decide (r.sign.base=32)))||(!(decide (r.sign.sty={Sty.zero with back:=r.sign.sty.back})))) with
  | true=>exact B9g
  | false=>cases last<;>exact D7m hs hr
theorem D8q {x:List Cel} (hv:RowV x) {c1 t:Int} (hc:c1≤x.length) (h0:0≤t) (h:t<c1):F1 (B0n c1 x t).sign.sty=0:=by
 have hlt:t.toNat<x.length:=by omega
 rw [(B8t (hv.runB hc) h0 h).2.2,gdE hlt]
 exact D7o (hv.ok _ (List.getElem_mem hlt))
theorem D8u {x:List Cel} (hv:RowV x) {mid to_:Int} (hk:CutAt x mid to_):∀ (k:Nat) (t:Int) (s:Sty) (bl:List Act) (a:Int),(mid - t).toNat≤k→0≤t→t<mid→AtC x t→F1 s=0→(D9 mid (A1s mid x t) s bl a).2.2.1=mid→D9 to_ (A1s mid x t) s bl a=D9 mid (A1s mid x t) s bl a:=by
 intro k
 induction k with
 | zero=>intro t s bl a hn _ ht _ _ _;omega
 | succ k ih =>
  intro t s bl a hn h0 ht ha hs h
  have hlt:=hk.lt
  have hmx:mid≤x.length:=by omega
  have hE:=C9n hv hk h0 ht ha
  have hg:=B8t (hv.runB hmx) h0 ht
  have hmy:=D6d hv hmx h0 (B0n mid x t) (by rw [A7g (hv.runB hmx) h0 ht];exact List.mem_cons_self ..)
  rw [A7g (hv.runB hmx) h0 ht] at h ⊢
  rw [A4k] at h
  rw [A4k,A4k]
  by_cases e:(B0n mid x t).til=mid
  ·rw [B6z (c1:=mid) (t:=(B0n mid x t).til) (by omega)] at h ⊢
   rw [decide_eq_true e] at h ⊢
   rw [decide_eq_false (by omega:¬ (B0n mid x t).til=to_)]
   have h':(A6s s (B0n mid x t) true).2.2.2=(B0n mid x t).til:=by rw [e];exact h
   rw [D5z hs (by omega) hmy h'];rfl
  ·rw [decide_eq_false e] at h ⊢
   rw [decide_eq_false (by omega:¬ (B0n mid x t).til=to_)]
   exact ih _ _ _ _ (by omega) (by omega) (by omega) hE.2.2 (D6r hs (D8q hv hmx h0 ht)) h
set_option maxRecDepth 100000 in
theorem C8i:A7z=true:=by decide +kernel
theorem E1r:∀ (l b:List Act) (i:Nat),l=b.drop i→G2 b l i=true
 | [],b,i,_=>rfl
 | a::l,b,i,h=>by
  have hi:i<b.length:=by
   rcases Nat.lt_or_ge i b.length with h1 | h1
   ·exact h1
   ·rw [List.drop_eq_nil_of_le h1] at h;cases h
  have hd:=B2q hi
  rw [← h] at hd
  injection hd with h1 h2
  rw [G2,decide_eq_true h1,Bool.not_true,cond_false]
  exact E1r l b (i+1) h2
theorem D1l (l:List Act):G0 l l=true:=by
 unfold G0
 rw [decide_eq_true (rfl:(l.length:Int)=_),Bool.not_true,cond_false]
 exact E1r l l 0 rfl
theorem E1u {to_:Int}:∀ (l:List Prn) (s:Sty) (bl bl':List Act) (a a':Int),l≠[]→(D9 to_ l s bl a).2=(D9 to_ l s bl' a').2
 | [],_,_,_,_,_,h=>absurd rfl h
 | x::l,s,bl,bl',a,a',_=>by
  rw [A4k,A4k,C3q to_ l _ (bl++_),C3q to_ l _ (bl'++_)]
theorem C5a (x:List Cel) (from_ mid to_:Int) (pen:Sty):A4l x from_ mid to_ pen=true:=by
 unfold A4l
 rw [C8i]
 simp only [B6,Bool.not_true,cond_false]
 have h0:((decide ((G7 x from_ from_ pen).2.2.2=0))&&(((decide ((0:Int)<((G7 x from_ from_ pen).1.length:Int)))||(!(decide ((G7 x from_ from_ pen).2.1=pen))))||(!decide ((G7 x from_ from_ pen).2.2.1=from_))))=false:=by
  by_cases h:(G7 x from_ from_ pen).2.2.2=0
  ·have hk:=C2k h
   rw [hk.is,B6z (c1:=from_) (t:=from_) (by omega)]
   show ((decide ((0:Int)=0))&&(((decide ((0:Int)<(([]:List Act).length:Int)))||(!(decide (pen=pen))))||(!decide (from_=from_))))=false
   simp
  ·rw [decide_eq_false h];rfl
 rw [h0,cond_false]
 by_cases h1n:¬ (G7 x from_ mid pen).2.2.2=0
 ·rw [decide_eq_false h1n];rfl
 have h1:=Decidable.of_not_not h1n
 by_cases h2n:¬ (G7 x mid to_ (G7 x from_ mid pen).2.1).2.2.2=0
 ·rw [decide_eq_false h2n,Bool.not_false,Bool.or_true];rfl
 have h2:=Decidable.of_not_not h2n
 by_cases h3n:¬ (G7 x from_ to_ pen).2.2.2=0
 ·rw [decide_eq_false h3n,Bool.not_false,Bool.or_true];rfl
 have h3:=Decidable.of_not_not h3n
 rw [decide_eq_true h1,decide_eq_true h2,decide_eq_true h3]
 simp only [Bool.not_true,Bool.or_self,cond_false]
 have k1:=C2k h1
 have k2:=C2k h2
 have k3:=C2k h3
 cases hc:(((((decide (mid=from_))||(decide (mid=to_)))||(decide ((x.getD ((mid).toNat) Cel.zero)=(x.getD ((IntKind.i64.wrap (mid - (1:Int))).toNat) Cel.zero))))||(decide ((x.getD ((IntKind.i64.wrap (mid - (1:Int))).toNat) Cel.zero).wide=2)))||(!decide ((G7 x from_ mid pen).2.2.1=mid))) with
 | true=>rfl
 | false =>
  rw [cond_false]
  have l1:=k1.lim
  have l2:=k2.lim
  have l8:=k1.row.len
  rw [wr6 (x:=mid - 1) (by omega)] at hc
  simp only [Bool.or_eq_false_iff,Bool.not_eq_false',decide_eq_true_eq,decide_eq_false_iff_not] at hc
  have hv:=k1.row
  have hk:CutAt x mid to_:=⟨by omega,k2.f2 (by omega),hc.1.1.2,hc.1.2⟩
  have ha:AtC x from_:=k1.f2
  have hat:=hc.2
  rw [k1.is] at hat
  have hf:=D8u hv hk _ from_ pen [] mid (Nat.le_refl _) l1.1 (by omega) ha k1.sty hat
  have hr:=C9x hv hk _ from_ (Nat.le_refl _) l1.1 l1.2.1 ha
  have hne1:A1s mid x from_≠[]:=by rw [A7g (hv.runB l1.2.2) l1.1 (by omega)];exact List.cons_ne_nil _ _
  have hne2:A1s to_ x mid≠[]:=by rw [A7g (hv.runB l2.2.2) l2.1 (by omega)];exact List.cons_ne_nil _ _
  have e3:G7 x from_ to_ pen=((G7 x from_ mid pen).1++(G7 x mid to_ (G7 x from_ mid pen).2.1).1,(G7 x mid to_ (G7 x from_ mid pen).2.1).2):=by
   have hA:D9 to_ (A1s mid x from_) pen [] to_=((D9 mid (A1s mid x from_) pen [] mid).1,(D9 mid (A1s mid x from_) pen [] mid).2):=by
    have g1:=E1u (to_:=to_) (A1s mid x from_) pen [] [] to_ mid hne1
    have g2:(D9 to_ (A1s mid x from_) pen [] to_).1=(D9 to_ (A1s mid x from_) pen [] mid).1:=by
     cases hl:A1s mid x from_ with
     | nil=>exact absurd hl hne1
     | cons y l=>rw [A4k,A4k]
    exact Prod.ext (g2.trans (by rw [hf])) (g1.trans (by rw [hf]))
   rw [k3.is,hr,C6c,hA,k2.is,k1.is]
   dsimp only
   generalize (D9 mid (A1s mid x from_) pen [] mid)=A
   rw [C3q]
   have g3:=E1u (to_:=to_) (A1s to_ x mid) A.2.1 [] [] A.2.2.1 to_ hne2
   have g4:(D9 to_ (A1s to_ x mid) A.2.1 [] A.2.2.1).1=(D9 to_ (A1s to_ x mid) A.2.1 [] to_).1:=by
    cases hl:A1s to_ x mid with
    | nil=>exact absurd hl hne2
    | cons y l=>rw [A4k,A4k]
   rw [g3,g4]
  rw [e3,D1l]
  simp
end Go.Proofs.YtanighkpfmgnbaaGreatDoor
