import Derived.Test.YthcjfkljekdioaaGreatDoorMX1
import Derived.Test.YthcjfkljekdioaaGreatDoorMX2
import Derived.Test.YthcjfkljekdioaaGreatDoorMB6
set_option linter.unusedVariables false
set_option linter.unusedSimpArgs false
namespace Go.Proofs.YthcjfkljekdioaaGreatDoor
open Go Go.Fen
theorem C9c (c:Int) (hc:2≤c∧c≤80):(A6r c).1=(S2 c).1:=by
 have h:∀ k:Fin 81,2≤k.val→(A6r (k.val:Int)).1=(S2 (k.val:Int)).1:=by decide +kernel
 have:=h ⟨c.toNat,by omega⟩ (by show 2≤c.toNat;omega)
 rw [show ((c.toNat:Nat):Int)=c by omega] at this
 exact this
theorem B6u (n:Int) (s:Sty):∀ (fu:Nat) (out:List Cel) (i:Nat),(n - (i:Int)).toNat<fu→V6 n s fu out i=out++List.replicate (n - (i:Int)).toNat (H3 s)
 | 0,out,i,h=>by omega
 | fu+1,out,i,h=>by
  simp only [V6]
  by_cases k:(i:Int)<n
  ·rw [decide_eq_true k,cond_true,B6u n s fu _ (i+1) (by omega),show (n - (i:Int)).toNat=(n - ((i+1:Nat):Int)).toNat+1 by omega,List.replicate_succ,List.append_assoc];rfl
  ·rw [decide_eq_false k,cond_false,show (n - (i:Int)).toNat=0 by omega];simp
theorem C4g (n:Int) (s:Sty):A2h n s=List.replicate n.toNat (H3 s):=by
 unfold A2h
 rw [B6u _ _ _ _ _ (by omega)];simp
theorem C2q (c n:Int) (s:Sty):∀ (fu:Nat) (out:List (Rwc Cel)) (i:Nat),(n - (i:Int)).toNat<fu→Y6 c n s fu out i=out++List.replicate (n - (i:Int)).toNat ⟨List.replicate c.toNat (H3 s),false⟩
 | 0,out,i,h=>by omega
 | fu+1,out,i,h=>by
  simp only [Y6,D5]
  by_cases k:(i:Int)<n
  ·rw [decide_eq_true k,cond_true,C4g,C2q c n s fu _ (i+1) (by omega),show (n - (i:Int)).toNat=(n - ((i+1:Nat):Int)).toNat+1 by omega,List.replicate_succ,List.append_assoc];rfl
  ·rw [decide_eq_false k,cond_false,show (n - (i:Int)).toNat=0 by omega];simp
theorem C2d (c n:Int) (s:Sty):A0q c n s=List.replicate n.toNat ⟨List.replicate c.toNat (H3 s),false⟩:=by
 unfold A0q
 rw [C2q _ _ _ _ _ _ (by omega)];simp
theorem B9d (f:FrmC) (d:ScrC×List (Rwc Cel)×List (Rwc Cel)×List Bool):∀ (l:List (List Cel)) (a:List (Rwc Cel)) (t:Nat),Q6 f d l a t =
  ({d.1 with cursor:=⟨f.cursor.row,f.cursor.col,false⟩,modes:={d.1.modes with visible:=f.visible},shape:=f.shape,title:=f.title},d.2.1,a++l.map (fun x=>⟨x,false⟩),d.2.2.2)
 | [],a,t=>by simp [Q6,Cur.zero]
 | x::l,a,t=>by simp only [Q6];rw [B9d];simp
theorem D1n (c r:Int) (hc:2≤c∧c≤80) (hr:1≤r∧r≤40):A1z c r=({ScrC.zero with cols:=c,rows:=r,modes:=Q7,bottom:=r - 1},
  List.replicate r.toNat ⟨List.replicate c.toNat (H3 Sty.zero),false⟩,List.replicate r.toNat ⟨List.replicate c.toNat (H3 Sty.zero),false⟩,(S2 c).1):=by
 unfold A1z D5
 simp only [C2d]
 rw [C9c _ hc,w64 (by omega)]
 rfl
theorem D3i {c r:Int} (m a:List (Rwc Cel)) (t:List Bool):A9k {ScrC.zero with cols:=c,rows:=r,modes:=Q7,bottom:=r - 1} m a t =
  ({ScrC.zero with cols:=c,rows:=r,onAlt:=true,modes:=Q7,bottom:=r - 1,kept:=⟨true,Cur.zero,Sty.zero,Sts.zero,false⟩},m,List.replicate r.toNat ⟨List.replicate c.toNat (H3 Sty.zero),false⟩,t):=by
 unfold A9k A9p D5
 simp only [C2d]
 rfl
theorem C6x {f:FrmC} {rows:List (List Cel)} (h:FOk f rows):A4c f rows=(C5f f rows,List.replicate (rows.length:Int).toNat ⟨List.replicate f.cols.toNat (H3 Sty.zero),false⟩,rows.map (fun x=>⟨x,false⟩),(S2 f.cols).1):=by
 unfold A4c D5
 rw [D1n _ _ h.hc h.hr]
 simp only []
 rw [D3i]
 simp only []
 rw [B9d]
 simp [C5f]
theorem C9n (b:List Bool):∀ (l:List Bool) (i:Nat),l=b.drop i→X5 b l i=true
 | [],i,h=>rfl
 | a::l,i,h=>by
  obtain ⟨hk,hx,h2⟩:=C1k (d:=false) h.symm
  simp only [X5]
  rw [C9n b l (i+1) h2.symm,hx];simp
theorem C8v (a:List Bool):A1l a a=true:=by
 unfold A1l;rw [C9n a a 0 rfl];simp
theorem C7z (b:List Cel):∀ (l:List Cel) (i:Nat),l=b.drop i→Y0 b l i=true
 | [],i,h=>rfl
 | a::l,i,h=>by
  obtain ⟨hk,hx,h2⟩:=C1k (d:=Cel.zero) h.symm
  simp only [Y0]
  rw [C7z b l (i+1) h2.symm,hx];simp
theorem D0i (a:List Cel) (b:Bool):A3j a b a b=true:=by
 unfold A3j;rw [C7z a a 0 rfl];simp
theorem C9s (b:List (Rwc Cel)):∀ (l:List (Rwc Cel)) (i:Nat),l=b.drop i→X4 b l i=true
 | [],i,h=>rfl
 | a::l,i,h=>by
  obtain ⟨hk,hx,h2⟩:=C1k (d:=zwc) h.symm
  simp only [X4]
  rw [C9s b l (i+1) h2.symm,hx,D0i];rfl
theorem C1r (a:List (Rwc Cel)):Q2 a a=true:=by
 unfold Q2;rw [C9s a a 0 rfl];simp
theorem C9b (s:ScrC) (m a:List (Rwc Cel)) (t:List Bool):A3f s m a t s m a t=true:=by
 unfold A3f
 rw [C8v,C1r,C1r,show A0i=true from rfl];simp
theorem B7c (f:FrmC) (fr:List (List Cel)) (hc:∀ r ∈ fr,∀ x ∈ r,aIn x):A0w f fr=true:=by
 unfold A0w D5
 rw [C5b]
 cases h:X0 f fr with
 | true =>
  have h0:=(B4j hc).2 h
  rw [D0b (C1z h0) h0,C6x (C1z h0)]
  exact C9b _ _ _ _
 | false =>
  have h0:=C6r (fun q=>by rw [(B4j hc).1 q] at h;cases h)
  unfold X2
  rw [h0];rfl
end Go.Proofs.YthcjfkljekdioaaGreatDoor
