import Derived.Test.YthcjfkljekdioaaGreatDoorMX1
import Derived.Test.YthcjfkljekdioaaGreatDoorMX2
import Derived.Test.YthcjfkljekdioaaGreatDoorMB6
set_option linter.unusedVariables false
set_option linter.unusedSimpArgs false
namespace Go.Proofs.YthcjfkljekdioaaGreatDoor
open Go Go.Fen
theorem B2w (l:List Cel) (hw:∀ k,k<l.length→(l.getD k Cel.zero).wide=0∨(l.getD k Cel.zero).wide=1∨(l.getD k Cel.zero).wide=2):∀ (tl out:List Cel) (i:Nat),l.drop i=tl→i≤l.length→P0 l tl out i=out++(List.range' i tl.length).map (C1j l)
 | [],out,i,h,hi=>by simp [P0]
 | x::tl,out,i,h,hi=>by
  obtain ⟨hk,hx,h2⟩:=C4u (d:=Cel.zero) h
  have hwx:=hw i hk
  rw [hx] at hwx
  simp only [P0]
  have e:(((!decide (x.wide=0))&&(!(((decide (((i:Int)+1)<(l.length:Int)))&&(decide (x.wide=1)))&&(decide ((l.getD (i+1) Cel.zero).wide=2)))))&&(!(((decide ((0:Int)<(i:Int)))&&(decide (x.wide=2)))&&(decide ((l.getD (i - 1) Cel.zero).wide=1)))))=B3f l i:=by
   unfold B3f
   rw [hx]
   have a1:((i:Int)+1<(l.length:Int)) ↔ ¬ ((i:Int)+1=(l.length:Int)):=by omega
   have a2:((0:Int)<(i:Int)) ↔ ¬ ((i:Int)=0):=by omega
   have b1:decide ((i:Int)+1<(l.length:Int))=!decide ((i:Int)+1=(l.length:Int)):=by rw [← decide_not];exact decide_eq_decide.2 a1
   have b2:decide ((0:Int)<(i:Int))=!decide ((i:Int)=0):=by rw [← decide_not];exact decide_eq_decide.2 a2
   rw [b1,b2]
   generalize decide ((i:Int)+1=(l.length:Int))=p
   generalize decide ((i:Int)=0)=q
   generalize decide ((l.getD (i+1) Cel.zero).wide=2)=r
   generalize decide ((l.getD (i - 1) Cel.zero).wide=1)=s
   rcases hwx with w | w | w<;>rw [w]<;>cases p<;>cases q<;>cases r<;>cases s<;>rfl
  rw [e,List.length_cons,List.range'_succ,List.map_cons]
  cases ha:B3f l i with
  | true =>
   rw [cond_true,B2w l hw tl _ (i+1) h2 hk,List.append_assoc]
   congr 1
   unfold C1j;rw [ha,hx];rfl
  | false =>
   rw [cond_false,B2w l hw tl _ (i+1) h2 hk,List.append_assoc]
   congr 1
   unfold C1j;rw [ha,hx];rfl
theorem C5i {l:List Cel} (hg:C2x l):A3j l=B6s l:=by
 unfold A3j
 rw [B2w l (fun k hk=>(D3x (hg.1 k hk)).1) l [] 0 rfl (Nat.zero_le _),List.nil_append]
 unfold B6s;rw [List.range_eq_range']
theorem C7d {f:FrmC} {fr:List (List Cel)} (h:FOk f fr) (r c n m:Int):Z8 f fr r c n m=Q0 f fr r c n m:=by
 have hr:=h.hr
 have hc:=h.hc
 unfold Z8
 by_cases q:r<0∨c<0∨n<1∨m<2∨40<n∨80<m∨40<r∨80<c
 ·have e:((((((((decide (r<0))||(decide (c<0)))||(decide (n<1)))||(decide (m<2)))||(decide ((40:Int)<n)))||(decide ((80:Int)<m)))||(decide ((40:Int)<r)))||(decide ((80:Int)<c)))=true:=by
   simp only [Bool.or_eq_true,decide_eq_true_eq];omega
  rw [e,cond_true]
  cases hh:Q0 f fr r c n m with
  | false=>rfl
  | true=>have:=B1r hh;omega
 ·have e:((((((((decide (r<0))||(decide (c<0)))||(decide (n<1)))||(decide (m<2)))||(decide ((40:Int)<n)))||(decide ((80:Int)<m)))||(decide ((40:Int)<r)))||(decide ((80:Int)<c)))=false:=by
   rw [← Bool.not_eq_true];simp only [Bool.or_eq_true,decide_eq_true_eq];omega
  rw [e,cond_false,wr6 (by omega),wr6 (by omega),Bool.eq_iff_iff]
  constructor
  ·intro hh
   simp only [Bool.and_eq_true,decide_eq_true_eq] at hh
   exact C4i (by omega)
  ·intro hh
   have:=B1r hh
   simp only [Bool.and_eq_true,decide_eq_true_eq];omega
theorem C1p {f:FrmC} {fr:List (List Cel)} {r c n m:Int} (h:FOk f fr) (hl:0≤r∧1≤n∧r+n≤fr.length∧0≤c∧2≤m∧c+m≤f.cols):∀ (fu:Nat) (j:Nat) (g:List (List Cel)),(n - (j:Int)).toNat<fu→(j:Int)≤n →
  Y6 f fr r c n m fu (r+j) g=(B4n f r c n m,g++(List.range' j (n.toNat - j)).map (fun i=>B6s (A2f fr r c m i)))
 | 0,j,g,hf,hj=>by omega
 | fu+1,j,g,hf,hj=>by
  have hr:=h.hr
  have hc:=h.hc
  simp only [Y6,E7]
  rw [wr6 (x:=r+n) (by omega),wr6 (x:=c+m) (by omega)]
  by_cases q:r+j<r+n
  ·rw [decide_eq_true q,cond_true]
   have e:(((fr.getD ((r+(j:Int)).toNat) []).drop (c.toNat)).take (((c+m).toNat) - (c.toNat)))=A2f fr r c m j:=by
    unfold A2f;rw [show (r+(j:Int)).toNat=r.toNat+j by omega,show (c+m).toNat - c.toNat=m.toNat by omega]
   rw [e,C5i (C3k h hl (i:=j) (by omega)).2,wr6 (x:=r+j+1) (by omega),show r+(j:Int)+1=r+((j+1:Nat):Int) by omega,C1p h hl fu (j+1) _ (by omega) (by omega)]
   rw [show n.toNat - j=(n.toNat - (j+1))+1 by omega,List.range'_succ,List.map_cons,List.append_assoc];rfl
  ·rw [decide_eq_false q,cond_false,show n.toNat - j=0 by omega,List.range'_zero,List.map_nil,List.append_nil]
   have h1:=h.h1
   have h2:=h.h2
   rw [wr6 (x:=f.cursor.row - r) (by omega),wr6 (x:=f.cursor.col - c) (by omega)]
   unfold B4n
   by_cases w:r≤f.cursor.row∧f.cursor.row<r+n∧c≤f.cursor.col∧f.cursor.col<c+m
   ·rw [if_pos w,decide_eq_true w.1,decide_eq_true w.2.1,decide_eq_true w.2.2.1,decide_eq_true w.2.2.2];rfl
   ·rw [if_neg w]
    have:((((decide (r≤f.cursor.row))&&(decide (f.cursor.row<r+n)))&&(decide (c≤f.cursor.col)))&&(decide (f.cursor.col<c+m)))=false:=by
     rw [← Bool.not_eq_true];simp only [Bool.and_eq_true,decide_eq_true_eq];omega
    rw [this];rfl
theorem C6x {f:FrmC} {fr:List (List Cel)} {r c n m:Int} (h:FOk f fr) (hl:0≤r∧1≤n∧r+n≤fr.length∧0≤c∧2≤m∧c+m≤f.cols):A4w f fr r c n m=(B4n f r c n m,(List.range n.toNat).map (fun i=>B6s (A2f fr r c m i))):=by
 have hr:=h.hr
 unfold A4w
 rw [wr6 (x:=r+n) (by omega)]
 have:=C1p h hl ((r+n - r).toNat+1) 0 [] (by omega) (by omega)
 rw [show r+((0:Nat):Int)=r by omega] at this
 rw [this,List.nil_append,Nat.sub_zero,List.range_eq_range']
theorem B6m (f:FrmC) (fr:List (List Cel)) (r c n m:Int) (hc:∀ x ∈ fr,∀ y ∈ x,aIn y):A0k f fr r c n m=true:=by
 unfold A0k E7
 rw [C3j]
 cases hR:W4 f fr with
 | true =>
  have h0:=(B3o hc).2 hR
  have h:=C6p h0
  rw [C7d h]
  cases hl:Q0 f fr r c n m with
  | true =>
   have hl:=B1r hl
   have hl':0≤r∧1≤n∧r+n≤fr.length∧0≤c∧2≤m∧c+m≤f.cols:=⟨hl.1,hl.2.1,hl.2.2.1,hl.2.2.2.1,hl.2.2.2.2.1,hl.2.2.2.2.2⟩
   rw [C8x h hl',C6x h hl']
   simp only [decide_true,Bool.not_true,cond_false,cond_true,C0o]
  | false =>
   have e:O7 f fr r c n m=(FrmC.zero,[],2):=by unfold O7;rw [h0,hl];rfl
   rw [e];rfl
 | false =>
  have h3:=C6e (f:=f) (rows:=fr) (fun q=>by rw [(B3o hc).1 q] at hR;cases hR)
  have e:O7 f fr r c n m=(FrmC.zero,[],330):=by unfold O7;rw [h3];rfl
  rw [e];rfl
end Go.Proofs.YthcjfkljekdioaaGreatDoor
