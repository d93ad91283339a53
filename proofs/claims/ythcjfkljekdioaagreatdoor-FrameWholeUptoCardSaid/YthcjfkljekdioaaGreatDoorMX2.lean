import Derived.Test.YthcjfkljekdioaaGreatDoorMX1
import Derived.Test.YthcjfkljekdioaaGreatDoorMB5
set_option linter.unusedVariables false
set_option linter.unusedSimpArgs false
namespace Go.Proofs.YthcjfkljekdioaaGreatDoor
open Go Go.Fen
theorem B7g (f:FrmC) (fr:List (List Cel)) (cut n:Int) (hn:(IntKind.i64.wrap ((2:Int)+(IntKind.i64.wrap (Int.tmod (IntKind.u64.wrap cut) (IntKind.u64.wrap (IntKind.i64.wrap (f.cols - (3:Int))))))))=n) (hb:2≤n∧n≤80) (pr:FrmC×List (List Cel)×Int) (t:Nat) (ag:Nat→Bool) (l:List Cel) (hl:fr.getD t []=l)
  (H:∀ k,k<l.length→¬ ((l.getD (n.toNat - 1) Cel.zero).wide=1∧(k=n.toNat - 1∨k=n.toNat))→(pr.2.1.getD t []).getD k Cel.zero=l.getD k Cel.zero):∀ (tl:List Cel) (k:Nat),l.drop k=tl→K5 f fr cut pr t ag tl k=ag (t+1)
 | [],k,e=>rfl
 | x::tl,k,e=>by
  obtain ⟨hk,hx,h2⟩:=B5s (d:=Cel.zero) e
  simp only [K5]
  rw [hn,wr6 (show -1000000≤n - 1∧n - 1≤1000000 by omega),hl,show (n - 1).toNat=n.toNat - 1 by omega]
  have:(((!(decide ((l.getD (n.toNat - 1) Cel.zero).wide=1)))||((!decide ((k:Int)=n - 1))&&(!decide ((k:Int)=n))))&&(!(decide (((pr.2.1.getD t []).getD k Cel.zero)=x))))=false:=by
   rw [← Bool.not_eq_true]
   simp only [Bool.and_eq_true,Bool.or_eq_true,Bool.not_eq_true',decide_eq_false_iff_not]
   intro ⟨q1,q3⟩
   apply q3
   rw [← hx]
   refine H k hk fun ⟨b1,b2⟩=>?_
   rcases q1 with q1 | q1
   ·exact q1 b1
   ·omega
  rw [this]
  exact B7g f fr cut n hn hb pr t ag l hl H tl (k+1) h2
theorem B6n (f:FrmC) (fr:List (List Cel)) (cut n:Int) (hn:(IntKind.i64.wrap ((2:Int)+(IntKind.i64.wrap (Int.tmod (IntKind.u64.wrap cut) (IntKind.u64.wrap (IntKind.i64.wrap (f.cols - (3:Int))))))))=n) (hb:2≤n∧n≤80) (p1 p2 pr:FrmC×List (List Cel)×Int)
  (H:∀ t,t<fr.length→∀ k,k<(fr.getD t []).length→¬ (((fr.getD t []).getD (n.toNat - 1) Cel.zero).wide=1∧(k=n.toNat - 1∨k=n.toNat))→(pr.2.1.getD t []).getD k Cel.zero=(fr.getD t []).getD k Cel.zero):∀ (tl:List (List Cel)) (t:Nat),fr.drop t=tl →
  J8 f fr cut p1 p2 pr tl t=((f.visible == (p1.1.visible||p2.1.visible))&&(!(p1.1.visible&&p2.1.visible)))
 | [],t,e=>rfl
 | l::tl,t,e=>by
  obtain ⟨ht,hx,h2⟩:=B5s (d:=[]) e
  simp only [J8]
  rw [B7g f fr cut n hn hb pr t _ l hx (fun k hk=>by have:=H t ht k;rw [hx] at this;exact this hk) l 0 rfl]
  exact B6n f fr cut n hn hb p1 p2 pr H tl (t+1) h2
theorem B1y (f:FrmC) (fr:List (List Cel)) (cut:Int):V8 f fr cut=true:=by
 unfold V8 F8
 rw [B9c]
 by_cases hc:C6 f fr=0
 ·have hf:=A7x hc
  have hfc:=hf.hc
  have hfr:=hf.hr
  have hlen:((fr.length:Nat):Int).toNat=fr.length:=by omega
  rw [hc]
  simp only [decide_true,Bool.not_true,cond_false]
  rw [B2l hf (r:=0) (c:=0) (n:=fr.length) (m:=f.cols) (by omega),B8u hf,C0q hf,C0l]
  simp only [decide_true,Bool.not_true,cond_false,Bool.or_self]
  by_cases h4:f.cols<4
  ·rw [decide_eq_true h4];rfl
  ·rw [decide_eq_false h4,cond_false]
   have hcut:=C1t f.cols cut (by omega)
   generalize hn:(IntKind.i64.wrap ((2:Int)+(IntKind.i64.wrap (Int.tmod (IntKind.u64.wrap cut) (IntKind.u64.wrap (IntKind.i64.wrap (f.cols - (3:Int))))))))=n at hcut ⊢
   have bl:(0:Int)≤0∧(1:Int)≤fr.length∧(0:Int)+fr.length≤fr.length∧(0:Int)≤0∧2≤n∧0+n≤f.cols:=by omega
   have br:(0:Int)≤0∧(1:Int)≤fr.length∧(0:Int)+fr.length≤fr.length∧0≤n∧2≤f.cols - n∧n+(f.cols - n)≤f.cols:=by omega
   rw [wr6 (show -1000000≤f.cols - n∧f.cols - n≤1000000 by omega),B2l hf bl,B2l hf br,hlen]
   have hL:=B9g hf bl
   have hR:=B9g hf br
   rw [hlen] at hL hR
   simp only [decide_true,Bool.not_true,cond_false,Bool.or_self]
   rw [B6d f.cols fr.length hfc hfr]
   simp only [decide_true,Bool.not_true,cond_false]
   have hB:=C1z hfc hfr
   generalize hLr:(List.range fr.length).map (fun i=>V4 (O1 fr 0 0 n i))=L at hL ⊢
   generalize hRr:(List.range fr.length).map (fun i=>V4 (O1 fr 0 n (f.cols - n) i))=R at hR ⊢
   have lL:L.length=fr.length:=by rw [← hLr];simp
   have lR:R.length=fr.length:=by rw [← hRr];simp
   generalize hBr:List.replicate ((fr.length:Nat):Int).toNat (List.replicate f.cols.toNat (K6 Sty.zero))=B at hB ⊢
   have lB:B.length=fr.length:=by rw [← hBr,List.length_replicate,hlen]
   have cL:=A7v f 0 0 fr.length n
   have cR:=A7v f 0 n fr.length (f.cols - n)
   generalize hfL:A0w f 0 0 fr.length n=gL at hL cL ⊢
   generalize hfR:A0w f 0 n fr.length (f.cols - n)=gR at hR cR ⊢
   have b1:0≤Plc.zero.row∧Plc.zero.row+L.length≤B.length∧0≤Plc.zero.col∧Plc.zero.col+gL.cols≤(⟨f.cols,Plc.zero,true,0,[]⟩:FrmC).cols:=by
    show (0:Int)≤0∧(0:Int)+L.length≤B.length∧(0:Int)≤0∧0+gL.cols≤f.cols
    omega
   have hO:=C2s hB hL b1
   rw [B4g hB hL b1]
   dsimp only
   rw [lB] at hO ⊢
   generalize hOr:(List.range fr.length).map (fun i=>V4 (U6 B L Plc.zero gL.cols i))=O at hO ⊢
   have lO:O.length=fr.length:=by rw [← hOr];simp
   have b2:0≤(⟨0,n⟩:Plc).row∧(⟨0,n⟩:Plc).row+R.length≤O.length∧0≤(⟨0,n⟩:Plc).col∧(⟨0,n⟩:Plc).col+gR.cols≤(⟨f.cols,Plc.zero,true,0,[]⟩:FrmC).cols:=by
    show (0:Int)≤0∧(0:Int)+R.length≤O.length∧0≤n∧n+gR.cols≤f.cols
    omega
   rw [show ({Plc.zero with col:=n}:Plc)=⟨0,n⟩ from rfl,B4g hO hR b2]
   simp only [decide_true,Bool.not_true,cond_false,Bool.or_self]
   rw [B6n f fr cut n hn (by omega) _ _ _ ?_ fr 0 rfl]
   ·dsimp only
    rw [← hfL,← hfR]
    have h1:=hf.h1
    have h2:=hf.h2
    unfold A0w
    by_cases q:f.cursor.col<n
    ·rw [if_pos (by omega),if_neg (by omega)];simp
    ·rw [if_neg (by omega),if_pos (by omega)];simp
   ·intro t ht k hk hh
    obtain ⟨r1,r2⟩:=hf.row ht
    have hp:=A3i r2
    dsimp only
    rw [lO,A3k _ ht]
    have hLt:L.getD t []=V4 ((fr.getD t []).take n.toNat):=by
     rw [← hLr,A3k _ ht];unfold O1
     rw [show (0:Int).toNat+t=t by omega,show (0:Int).toNat=0 from rfl,List.drop_zero]
    have hRt:R.getD t []=V4 ((fr.getD t []).drop n.toNat):=by
     rw [← hRr,A3k _ ht];unfold O1
     rw [show (0:Int).toNat+t=t by omega,List.take_of_length_le (by rw [List.length_drop];omega)]
    obtain ⟨g1,g2⟩:=hL.row (i:=t) (by omega)
    obtain ⟨g3,g4⟩:=hR.row (i:=t) (by omega)
    have hOt:(O.getD t []).take n.toNat=L.getD t []∧(O.getD t []).length=f.cols.toNat:=by
     have hbt:=(hB.row (i:=t) (by omega)).1
     rw [← hOr,A3k _ ht]
     unfold U6
     rw [if_pos (by show (0:Int)≤t∧(t:Int)<0+L.length;omega),show t - Plc.zero.row.toNat=t from rfl,show Plc.zero.col.toNat=0 from rfl,List.take_zero]
     have:=B9n (a:=[]) (c:=(B.getD t []).drop (0+gL.cols.toNat)) (A3i g2)
     rw [List.length_nil,List.drop_zero,show (L.getD t []).length=n.toNat by omega] at this
     refine ⟨this,?_⟩
     rw [A1f];simp only [List.length_append,List.length_drop,List.length_nil]
     have hbt':((B.getD t []).length:Int)=f.cols:=hbt
     omega
    have hput:U6 O R ⟨0,n⟩ gR.cols t=[]++L.getD t []++R.getD t []:=by
     unfold U6
     rw [if_pos (by show (0:Int)≤t∧(t:Int)<0+R.length;omega),show t - (⟨0,n⟩:Plc).row.toNat=t from rfl]
     dsimp only
     rw [hOt.1,List.drop_of_length_le (by rw [hOt.2];omega),List.append_nil,List.nil_append]
    rw [hput]
    have e1:([]++L.getD t []++R.getD t []).length=f.cols.toNat:=by simp only [List.length_append,List.length_nil];omega
    rw [A2j _ (by rw [e1];omega)]
    by_cases q:k<n.toNat
    ·have:=B5e (a:=[]) (c:=R.getD t []) (A3i g2) (k:=k) (by omega)
     rw [List.length_nil,Nat.zero_add] at this
     rw [this,hLt,A2j _ (by rw [List.length_take];omega)]
     exact C8f hp q (by omega) hh
    ·have:=B5e (a:=L.getD t []) (c:=[]) (A3i g4) (k:=k - n.toNat) (by omega)
     rw [List.append_nil,show (L.getD t []).length+(k - n.toNat)=k by omega] at this
     rw [List.nil_append]
     rw [this,hRt,A2j _ (by rw [List.length_drop];omega)]
     have e2:n.toNat+(k - n.toNat)=k:=by omega
     have:=C8z hp (n:=n.toNat) (k:=k - n.toNat) (by omega) (by omega) (by rw [e2];exact hh)
     rw [e2] at this;exact this
 ·rw [decide_eq_false hc];rfl
end Go.Proofs.YthcjfkljekdioaaGreatDoor
