import Derived.Test.YthcjfkljekdioaaGreatDoorMX1
import Derived.Test.YthcjfkljekdioaaGreatDoorMX2
import Derived.Test.YthcjfkljekdioaaGreatDoorMB6
set_option linter.unusedVariables false
set_option linter.unusedSimpArgs false
namespace Go.Proofs.YthcjfkljekdioaaGreatDoor
open Go Go.Fen
theorem B2z (l:List Cel) (hw:∀ k,k<l.length→(l.getD k Cel.zero).wide=0∨(l.getD k Cel.zero).wide=1∨(l.getD k Cel.zero).wide=2):∀ (tl out:List Cel) (i:Nat),l.drop i=tl→i≤l.length→P2 l tl out i=out++(List.range' i tl.length).map (C1r l)
 | [],out,i,h,hi=>by simp [P2]
 | x::tl,out,i,h,hi=>by
  obtain ⟨hk,hx,h2⟩:=C0p (d:=Cel.zero) h
  have hwx:=hw i hk
  rw [hx] at hwx
  simp only [P2]
  have e:(((!decide (x.wide=0))&&(!(((decide (((i:Int)+1)<(l.length:Int)))&&(decide (x.wide=1)))&&(decide ((l.getD (i+1) Cel.zero).wide=2)))))&&(!(((decide ((0:Int)<(i:Int)))&&(decide (x.wide=2)))&&(decide ((l.getD (i - 1) Cel.zero).wide=1)))))=B4b l i:=by
   unfold B4b
   rw [hx]
   have a1:((i:Int)+1<(l.length:Int)) ↔ ¬ ((i:Int)+1=(l.length:Int)):=by omega
   have a2:((0:Int)<(i:Int)) ↔ ¬ ((i:Int)=0):=by omega
   have b1:decide ((i:Int)+1<(l.length:Int))=!decide ((i:Int)+1=(l.length:Int)):=by rw [← decide_not];exact decide_eq_decide.2 a1
   have b2:decide ((0:Int)<(i:Int))=!decide ((i:Int)=0):=by rw [← decide_not];exact decide_eq_decide.2 a2
   rw [b1,b2]
   generalize decide ((i:Int)+1=(l.length:Int))=p
   generalize decide ((i:Int)=0)=q
   generalize decide ((l.getD (i+1) Cel.zero).wide=2)=r
   generalize decide ((l.getD (i - 1) Cel.zero).wide=1)=s
   rcases hwx with w | w | w<;>rw [w]<;>cases p<;>cases q<;>cases r<;>cases s<;>rfl
  rw [e,List.length_cons,List.range'_succ,List.map_cons]
  cases ha:B4b l i with
  | true =>
   rw [cond_true,B2z l hw tl _ (i+1) h2 hk,List.append_assoc]
   congr 1
   unfold C1r;rw [ha,hx];rfl
  | false =>
   rw [cond_false,B2z l hw tl _ (i+1) h2 hk,List.append_assoc]
   congr 1
   unfold C1r;rw [ha,hx];rfl
theorem C6t {l:List Cel} (hg:A8p l):A3j l=B7n l:=by
 unfold A3j
 rw [B2z l (fun k hk=>(D4f (hg.1 k hk)).1) l [] 0 rfl (Nat.zero_le _),List.nil_append]
 unfold B7n;rw [List.range_eq_range']
theorem C9h {f:FrmC} {fr:List (List Cel)} (h:FOk f fr) (r c n m:Int):A0b f fr r c n m=Q2 f fr r c n m:=by
 have hr:=h.hr
 have hc:=h.hc
 unfold A0b
 by_cases q:r<0∨c<0∨n<1∨m<2∨40<n∨80<m∨40<r∨80<c
 ·have e:((((((((decide (r<0))||(decide (c<0)))||(decide (n<1)))||(decide (m<2)))||(decide ((40:Int)<n)))||(decide ((80:Int)<m)))||(decide ((40:Int)<r)))||(decide ((80:Int)<c)))=true:=by
   simp only [Bool.or_eq_true,decide_eq_true_eq];omega
  rw [e,cond_true]
  cases hh:Q2 f fr r c n m with
  | false=>rfl
  | true=>have:=B2b hh;omega
 ·have e:((((((((decide (r<0))||(decide (c<0)))||(decide (n<1)))||(decide (m<2)))||(decide ((40:Int)<n)))||(decide ((80:Int)<m)))||(decide ((40:Int)<r)))||(decide ((80:Int)<c)))=false:=by
   rw [← Bool.not_eq_true];simp only [Bool.or_eq_true,decide_eq_true_eq];omega
  rw [e,cond_false,wr6 (by omega),wr6 (by omega),Bool.eq_iff_iff]
  constructor
  ·intro hh
   simp only [Bool.and_eq_true,decide_eq_true_eq] at hh
   exact C4z (by omega)
  ·intro hh
   have:=B2b hh
   simp only [Bool.and_eq_true,decide_eq_true_eq];omega
end Go.Proofs.YthcjfkljekdioaaGreatDoor
set_option linter.unusedVariables false
set_option linter.unusedSimpArgs false
namespace Go.Proofs.YthcjfkljekdioaaGreatDoor
open Go Go.Fen
theorem B9d {f:FrmC} {fr:List (List Cel)} {g:FrmC} {gr:List (List Cel)} {p:Plc} (hf:FOk f fr) (hg:FOk g gr) (hl:0≤p.row∧p.row+gr.length≤fr.length∧0≤p.col∧p.col+g.cols≤f.cols) {i:Nat} (hi:i<fr.length) (hr:List (List Cel)) (ag:Nat→List (List Cel)→(FrmC×List (List Cel))) :
  ∀ (fu:Nat) (k:Nat) (l:List Cel),(f.cols - (k:Int)).toNat<fu→(k:Int)≤f.cols→l=(A0o fr gr p g.cols i).take k→Y4 f fr g gr p i hr ag fu l k=ag (i+1) (hr++[B7n (A0o fr gr p g.cols i)])
 | 0,k,l,h,hk,he=>by omega
 | fu+1,k,l,h,hk,he=>by
  have hfc:=hf.hc
  have hfr:=hf.hr
  have hgc:=hg.hc
  have hlen:=C3w hf hg hl hi
  have hrow:=(hf.row hi).1
  simp only [Y4]
  by_cases q:(k:Int)<f.cols
  ·rw [decide_eq_true q,cond_true,wr6 (x:=p.row+(gr.length:Int)) (by omega),wr6 (x:=p.col+g.cols) (by omega),wr6 (x:=(i:Int) - p.row) (by omega),wr6 (x:=(k:Int) - p.col) (by omega)]
   have hstep:∀ x:Cel,x=(A0o fr gr p g.cols i).getD k Cel.zero→l++[x]=(A0o fr gr p g.cols i).take (k+1):=fun x hx=>by
    rw [he,hx,List.take_add_one]
    congr 1
    rw [List.getD_eq_getElem?_getD,List.getElem?_eq_getElem (by omega)];rfl
   by_cases w:p.row≤(i:Int)∧(i:Int)<p.row+gr.length∧p.col≤(k:Int)∧(k:Int)<p.col+g.cols
   ·rw [decide_eq_true w.1,decide_eq_true w.2.1,decide_eq_true w.2.2.1,decide_eq_true w.2.2.2]
    simp only [Bool.and_self,cond_true]
    refine B9d hf hg hl hi hr ag fu (k+1) _ (by omega) (by omega) (hstep _ ?_)
    have hA:((fr.getD i []).take p.col.toNat).length=p.col.toNat:=by rw [List.length_take];omega
    have hgl:=(hg.row (i:=i - p.row.toNat) (by omega)).1
    unfold A0o
    rw [if_pos ⟨w.1,w.2.1⟩,show k=((fr.getD i []).take p.col.toNat).length+(k - p.col.toNat) by omega,List.append_assoc,D3s,C6w (by omega),show ((i:Int) - p.row).toNat=i - p.row.toNat by omega,hA,show ((((p.col.toNat+(k - p.col.toNat):Nat):Int)) - p.col).toNat=k - p.col.toNat by omega]
   ·have e:((((decide (p.row≤(i:Int)))&&(decide ((i:Int)<p.row+(gr.length:Int))))&&(decide (p.col≤(k:Int))))&&(decide ((k:Int)<p.col+g.cols)))=false:=by
     rw [← Bool.not_eq_true];simp only [Bool.and_eq_true,decide_eq_true_eq];omega
    rw [e,cond_false]
    refine B9d hf hg hl hi hr ag fu (k+1) _ (by omega) (by omega) (hstep _ ?_)
    unfold A0o
    split
    ·rename_i hr'
     have hgl:=(hg.row (i:=i - p.row.toNat) (by omega)).1
     have hA:((fr.getD i []).take p.col.toNat).length=p.col.toNat:=by rw [List.length_take];omega
     by_cases q':k<p.col.toNat
     ·rw [List.append_assoc,C6w (by rw [hA];exact q'),gt q']
     ·have hAB:((fr.getD i []).take p.col.toNat++gr.getD (i - p.row.toNat) []).length=p.col.toNat+g.cols.toNat:=by rw [List.length_append,hA];omega
      rw [C2o (by rw [hAB];omega),hAB,gdr,show p.col.toNat+g.cols.toNat+(k - (p.col.toNat+g.cols.toNat))=k by omega]
    ·rfl
  ·rw [decide_eq_false q,cond_false]
   unfold E8
   have e:l=A0o fr gr p g.cols i:=by rw [he,List.take_of_length_le (by omega)]
   rw [e,C6t (C2d hf hg hl hi)]
theorem C4o {f:FrmC} {fr:List (List Cel)} {g:FrmC} {gr:List (List Cel)} {p:Plc} (hf:FOk f fr) (hg:FOk g gr) (hl:0≤p.row∧p.row+gr.length≤fr.length∧0≤p.col∧p.col+g.cols≤f.cols):∀ (tl:List (List Cel)) (i:Nat) (h:List (List Cel)),fr.drop i=tl →
  S2 f fr g gr p tl i h=(f,h++(List.range' i tl.length).map (fun i=>B7n (A0o fr gr p g.cols i)))
 | [],i,h,e=>by simp [S2]
 | x::tl,i,h,e=>by
  obtain ⟨hi,hx,h2⟩:=C0p (d:=[]) e
  have hfc:=hf.hc
  simp only [S2]
  rw [B9d hf hg hl hi _ _ _ 0 [] (by omega) (by omega) rfl,C4o hf hg hl tl (i+1) _ h2,List.length_cons,List.range'_succ,List.map_cons,List.append_assoc];rfl
theorem B7l (f:FrmC) (fr:List (List Cel)) (g:FrmC) (gr:List (List Cel)) (p:Plc) (hc:∀ x ∈ fr,∀ y ∈ x,aIn y) (hc2:∀ x ∈ gr,∀ y ∈ x,aIn y):A1a f fr g gr p=true:=by
 unfold A1a E8
 rw [C3h]
 cases hR:K6 f fr with
 | true =>
  have h0:=(A5o hc).2 hR
  have h:=C3b h0
  cases hR2:K6 g gr with
  | true =>
   have h1:=(A5o hc2).2 hR2
   have h':=C3b h1
   rw [C9h h]
   cases hl:Q2 f fr p.row p.col gr.length g.cols with
   | true =>
    obtain ⟨l1,l2,l3,l4,l5,l6⟩:=B2b hl
    have hl':0≤p.row∧p.row+gr.length≤fr.length∧0≤p.col∧p.col+g.cols≤f.cols:=⟨l1,l3,l4,l6⟩
    have e:A6n f fr g gr p=(f,(List.range fr.length).map (fun i=>B7n (A0o fr gr p g.cols i))):=by
     unfold A6n;rw [C4o h h' hl' fr 0 [] rfl,List.nil_append,List.range_eq_range']
    rw [C9s h h' hl',e]
    simp only [decide_true,Bool.not_true,cond_false,cond_true,Bool.or_self,B8t]
   | false =>
    have e:Q7 f fr g gr p=(FrmC.zero,[],2):=by unfold Q7;rw [h0,h1,hl];rfl
    rw [e];rfl
  | false =>
   have h3:=B8j (f:=g) (rows:=gr) (fun q=>by rw [(A5o hc2).1 q] at hR2;cases hR2)
   have e:Q7 f fr g gr p=(FrmC.zero,[],330):=by unfold Q7;rw [h0,h3];rfl
   rw [e];rfl
 | false =>
  have h3:=B8j (f:=f) (rows:=fr) (fun q=>by rw [(A5o hc).1 q] at hR;cases hR)
  have e:Q7 f fr g gr p=(FrmC.zero,[],330):=by unfold Q7;rw [h3];rfl
  rw [e];rfl
end Go.Proofs.YthcjfkljekdioaaGreatDoor
