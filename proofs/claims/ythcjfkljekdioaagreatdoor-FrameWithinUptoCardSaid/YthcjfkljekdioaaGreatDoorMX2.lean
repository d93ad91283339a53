import Derived.Test.YthcjfkljekdioaaGreatDoorMX1
import Derived.Test.YthcjfkljekdioaaGreatDoorMB5
set_option linter.unusedVariables false
set_option linter.unusedSimpArgs false
namespace Go.Proofs.YthcjfkljekdioaaGreatDoor
open Go Go.Fen
theorem B3m (pr:FrmC×List (List Cel)×Int) (t:Nat) (ag:Nat→Bool):∀ (tl:List Cel) (k:Nat),(pr.2.1.getD t []).drop k=tl→K1 pr t ag tl k=ag (t+1)
 | [],k,h=>rfl
 | x::tl,k,h=>by
  obtain ⟨hk,hx,h2⟩:=A7z (d:=Cel.zero) h
  simp only [K1]
  rw [hx,decide_eq_true rfl]
  exact B3m pr t ag tl (k+1) h2
theorem B3o (g:FrmC) (gr:List (List Cel)) (p:Plc) (h:FrmC×List (List Cel)×Int) (t:Nat) (ag:Nat→Bool) (l:List Cel)
  (H:∀ k,k<l.length→¬ (p.row≤t∧(t:Int)<IntKind.i64.wrap (p.row+gr.length)∧p.col≤k∧(k:Int)<IntKind.i64.wrap (p.col+g.cols))→(l.getD k Cel.zero).wide=0→(h.2.1.getD t []).getD k Cel.zero=l.getD k Cel.zero):∀ (tl:List Cel) (k:Nat),l.drop k=tl→K0 g gr p h t ag tl k=ag (t+1)
 | [],k,e=>rfl
 | x::tl,k,e=>by
  obtain ⟨hk,hx,h2⟩:=A7z (d:=Cel.zero) e
  simp only [K0]
  have:(((!((((decide (p.row≤(t:Int)))&&(decide ((t:Int)<(IntKind.i64.wrap (p.row+(gr.length:Int))))))&&(decide (p.col≤(k:Int))))&&(decide ((k:Int)<(IntKind.i64.wrap (p.col+g.cols))))))&&(decide (x.wide=0)))&&(!(decide (((h.2.1.getD t []).getD k Cel.zero)=x))))=false:=by
   rw [← Bool.not_eq_true]
   simp only [Bool.and_eq_true,Bool.not_eq_true',decide_eq_true_eq,decide_eq_false_iff_not]
   intro ⟨⟨q1,q2⟩,q3⟩
   apply q3
   rw [← hx] at q2 ⊢
   refine H k hk (fun ⟨b1,b2,b3,b4⟩=>?_) q2
   rw [decide_eq_true b1,decide_eq_true b2,decide_eq_true b3,decide_eq_true b4] at q1;cases q1
  rw [this]
  exact B3o g gr p h t ag l H tl (k+1) h2
theorem B3f (g:FrmC) (gr:List (List Cel)) (p:Plc) (h:FrmC×List (List Cel)×Int) (fr:List (List Cel))
  (H:∀ t,t<fr.length→∀ k,k<(fr.getD t []).length→¬ (p.row≤t∧(t:Int)<IntKind.i64.wrap (p.row+gr.length)∧p.col≤k∧(k:Int)<IntKind.i64.wrap (p.col+g.cols))→((fr.getD t []).getD k Cel.zero).wide=0→(h.2.1.getD t []).getD k Cel.zero=(fr.getD t []).getD k Cel.zero) :
  ∀ (tl:List (List Cel)) (t:Nat),fr.drop t=tl→H8 g gr p h tl t=true
 | [],t,e=>rfl
 | l::tl,t,e=>by
  obtain ⟨ht,hx,h2⟩:=A7z (d:=[]) e
  simp only [H8]
  rw [B3o g gr p h t _ l (fun k hk=>by have:=H t ht k;rw [hx] at this;exact this hk) l 0 rfl]
  exact B3f g gr p h fr H tl (t+1) h2
theorem B3j (fr:List (List Cel)) (g:FrmC) (gr:List (List Cel)) (p:Plc) (h pr:FrmC×List (List Cel)×Int) (hp:pr.2.1=gr):∀ (tl:List (List Cel)) (t:Nat),gr.drop t=tl→I8 fr g gr p h pr tl t=H8 g gr p h fr 0
 | [],t,e=>rfl
 | l::tl,t,e=>by
  obtain ⟨ht,hx,h2⟩:=A7z (d:=[]) e
  simp only [I8]
  rw [B3m pr t _ l 0 (by rw [hp,hx];rfl)]
  exact B3j fr g gr p h pr hp tl (t+1) h2
theorem B0f (f:FrmC) (fr:List (List Cel)) (g:FrmC) (gr:List (List Cel)) (p:Plc):U4 f fr g gr p=true:=by
 unfold U4 H3
 rw [B7z]
 by_cases hq:B6 f fr=0∧B6 g gr=0∧L6 f fr p.row p.col gr.length g.cols=true
 ·obtain ⟨c1,c2,c3⟩:=hq
  have hf:=A7a c1
  have hg:=A7a c2
  obtain ⟨l1,l2,l3,l4,l5,l6⟩:=B0l c3
  have hl:0≤p.row∧p.row+gr.length≤fr.length∧0≤p.col∧p.col+g.cols≤f.cols:=⟨l1,l3,l4,l6⟩
  have hP:=C1w hf hg hl
  have hlen:((List.range fr.length).map (fun i=>A0t (V6 fr gr p g.cols i))).length=fr.length:=by simp
  have hfr:=hf.hr
  have hfc:=hf.hc
  rw [B8o hf hg hl]
  simp only [decide_true,Bool.not_true,cond_false]
  rw [B8v hP (by rw [hlen];exact ⟨l1,l2,l3,l4,l5,l6⟩),show ((gr.length:Nat):Int).toNat=gr.length by omega,B6o hf hg hl]
  have hc2:B6 (if p.row≤f.cursor.row∧f.cursor.row<p.row+gr.length∧p.col≤f.cursor.col∧f.cursor.col<p.col+g.cols then {f with cols:=g.cols,cursor:=⟨f.cursor.row - p.row,f.cursor.col - p.col⟩} else {f with cols:=g.cols,cursor:=Plc.zero,visible:=false}) gr=0:=by
   apply A4r
   have hc:=hg.hc
   have hr:=hg.hr
   split
   ·exact ⟨hg.hc,hg.hr,⟨show 0≤f.cursor.row - p.row by omega,show f.cursor.row - p.row<_ by omega⟩,⟨show 0≤f.cursor.col - p.col by omega,show f.cursor.col - p.col<g.cols by omega⟩,hf.sh,hf.ti,hg.ro⟩
   ·exact ⟨hg.hc,hg.hr,⟨show (0:Int)≤0 by omega,show (0:Int)<_ by omega⟩,⟨show (0:Int)≤0 by omega,show (0:Int)<g.cols by omega⟩,hf.sh,hf.ti,hg.ro⟩
  simp only [decide_true,Bool.not_true,cond_false,A4r hP,hc2,Bool.or_self]
  rw [B3j fr g gr p _ _ rfl gr 0 rfl]
  refine B3f g gr p _ fr (fun t ht k hk hin hw=>?_) fr 0 rfl
  rw [wr6 (show -1000000≤p.row+(gr.length:Int)∧p.row+(gr.length:Int)≤1000000 by omega),wr6 (show -1000000≤p.col+g.cols∧p.col+g.cols≤1000000 by have:=hg.hc;omega)] at hin
  have hlk:=B2d hf hg hl ht
  have hfl:=(hf.row ht).1
  show (((List.range fr.length).map (fun i=>A0t (V6 fr gr p g.cols i))).getD t []).getD k Cel.zero=_
  rw [B3r _ ht,A2z _ (by omega)]
  unfold V6
  split
  ·rename_i hr
   have hgl:=(hg.row (i:=t - p.row.toNat) (by omega)).1
   have hA:((fr.getD t []).take p.col.toNat).length=p.col.toNat:=by rw [List.length_take];omega
   have e:(((fr.getD t []).take p.col.toNat)++(gr.getD (t - p.row.toNat) [])++((fr.getD t []).drop (p.col.toNat+g.cols.toNat))).getD k Cel.zero=(fr.getD t []).getD k Cel.zero:=by
    by_cases q:k<p.col.toNat
    ·rw [List.append_assoc,B5v (by rw [hA];exact q),gt q]
    ·have hAB:((fr.getD t []).take p.col.toNat++gr.getD (t - p.row.toNat) []).length=p.col.toNat+g.cols.toNat:=by rw [List.length_append,hA];omega
     rw [B6y (by rw [hAB];omega),hAB,gdr,show p.col.toNat+g.cols.toNat+(k - (p.col.toNat+g.cols.toNat))=k by omega]
   rw [C1l (by rw [e];exact hw),e]
  ·rw [← A2z _ hk,C1v (hf.row ht).2]
 ·rcases B9d hq with h | h
  ·simp only [h];rfl
  ·simp only [h];rfl
end Go.Proofs.YthcjfkljekdioaaGreatDoor
