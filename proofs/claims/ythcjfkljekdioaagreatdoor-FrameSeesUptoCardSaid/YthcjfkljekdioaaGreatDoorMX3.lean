import Derived.Test.YthcjfkljekdioaaGreatDoorMX2
import Derived.Test.YthcjfkljekdioaaGreatDoorMB6
set_option linter.unusedVariables false
set_option linter.unusedSimpArgs false
namespace Go.Proofs.YthcjfkljekdioaaGreatDoor
open Go Go.Fen
theorem C3h (r c t b:Int) (o:Bool):J8 r c t b o=0 ↔ M1 r c t b o=true:=by
 unfold J8 M1
 by_cases h:1≤r∧r≤40∧2≤c∧c≤80
 ·rw [w64 (show -1000000≤r - 1∧r - 1≤1000000 by omega),show ((((decide (r<1))||(decide ((40:Int)<r)))||(decide (c<2)))||(decide ((80:Int)<c)))=false by simp only [Bool.or_eq_false_iff,decide_eq_false_iff_not];omega,
   show ((((decide ((1:Int)≤r))&&(decide (r≤40)))&&(decide ((2:Int)≤c)))&&(decide (c≤80)))=true by simp only [Bool.and_eq_true,decide_eq_true_eq];omega,cond_false]
  simp only [Bool.or_eq_true,Bool.and_eq_true,decide_eq_true_eq,Bool.cond_eq_ite,Bool.not_eq_true',Bool.and_eq_false_iff,Bool.or_eq_false_iff,decide_eq_false_iff_not,Bool.not_true,Bool.false_or]
  split<;>omega
 ·rw [show ((((decide (r<1))||(decide ((40:Int)<r)))||(decide (c<2)))||(decide ((80:Int)<c)))=true by simp only [Bool.or_eq_true,decide_eq_true_eq];omega,
   show ((((decide ((1:Int)≤r))&&(decide (r≤40)))&&(decide ((2:Int)≤c)))&&(decide (c≤80)))=false by simp only [Bool.and_eq_false_iff,decide_eq_false_iff_not];omega]
  exact ⟨fun q=>(by cases q),fun q=>(by cases q)⟩
theorem B9g {n b:Int} (hb:0≤b):n=X4 n 0 b ↔ 0≤n∧n≤b:=by
 unfold X4
 split<;>split at *<;>omega
theorem D1y {r c t b:Int} {o:Bool} (h0:J8 r c t b o=0) (h1:1≤r∧r≤40) (h2:2≤c∧c≤80) (u:Cur):decide (F3 r c t b o u=0)=X9 r c t b o u:=by
 unfold F3 X9 P1 O8
 rw [h0,w64 (show -1000000≤r - 1∧r - 1≤1000000 by omega),w64 (show -1000000≤c - 1∧c - 1≤1000000 by omega)]
 have a1:=B9g (n:=u.row) (b:=r - 1) (by omega)
 have a2:=B9g (n:=u.col) (b:=c - 1) (by omega)
 simp only [decide_true,Bool.not_true,cond_false]
 rw [decide_eq_decide.2 a1,decide_eq_decide.2 a2]
 have e1:decide (0≤u.row∧u.row≤r - 1)=(decide (0≤u.row)&&decide (u.row<r)):=by rw [Bool.eq_iff_iff];simp only [Bool.and_eq_true,decide_eq_true_eq];omega
 have e2:decide (0≤u.col∧u.col≤c - 1)=(decide (0≤u.col)&&decide (u.col<c)):=by rw [Bool.eq_iff_iff];simp only [Bool.and_eq_true,decide_eq_true_eq];omega
 rw [e1,e2]
 by_cases hc:0≤u.col∧u.col<c
 ·have e3:decide (u.col<c - 1)=!decide (u.col=c - 1):=by rw [Bool.eq_iff_iff];simp only [Bool.not_eq_true',decide_eq_true_eq,decide_eq_false_iff_not];omega
  rw [e3,decide_eq_true hc.1,decide_eq_true hc.2]
  cases decide (0≤u.row)<;>cases decide (u.row<r)<;>cases u.wrap<;>cases decide (u.col=c - 1)<;>rfl
 ·have e3:(decide (0≤u.col)&&decide (u.col<c))=false:=by simp only [Bool.and_eq_false_iff,decide_eq_false_iff_not];omega
  rw [Bool.and_assoc (_&&_) (decide (0≤u.col)),e3];simp
theorem D1b {a:Int} (h0:-9223372036854775808≤a) (h1:a≤9223372036854775807):bOp .andNot .i64 a 1=0 ↔ a=0∨a=1:=by
 show IntKind.i64.wrap (((BitVec.ofInt 64 a &&& ~~~ BitVec.ofInt 64 1).toNat:Nat):Int)=0 ↔ _
 have hw:∀ v:BitVec 64,IntKind.i64.wrap ((v.toNat:Nat):Int)=0 ↔ v=0#64:=fun v=>by
  have:=v.isLt
  constructor
  ·intro h
   apply BitVec.eq_of_toNat_eq
   simp [IntKind.wrap,IntKind.signed,IntKind.bits] at h ⊢
   omega
  ·intro h;subst h;decide
 rw [hw]
 have ht:(BitVec.ofInt 64 a).toNat=(a % 18446744073709551616).toNat:=by rw [BitVec.toNat_ofInt];rfl
 constructor
 ·intro h
  have hlt:(BitVec.ofInt 64 a).toNat<2 ^ 1:=by
   apply Nat.lt_pow_two_of_testBit
   intro i hi
   have hb:(BitVec.ofInt 64 a &&& ~~~ BitVec.ofInt 64 1).getLsbD i=false:=by rw [h];simp
   rw [BitVec.getLsbD_and,BitVec.getLsbD_not] at hb
   by_cases hi64:i<64
   ·have h255:(BitVec.ofInt 64 1).getLsbD i=false:=by
     show (1:Nat).testBit i=false
     exact Nat.testBit_lt_two_pow (Nat.lt_of_lt_of_le (by decide:1<2 ^ 1) (Nat.pow_le_pow_right (by decide) hi))
    rw [h255] at hb
    simpa [hi64,BitVec.getLsbD] using hb
   ·exact Nat.testBit_lt_two_pow (Nat.lt_of_lt_of_le (BitVec.isLt _) (Nat.pow_le_pow_right (by decide) (by omega)))
  rw [ht] at hlt;omega
 ·rintro (rfl | rfl)<;>decide +kernel
theorem C5o (s:Sts) (h0:-9223372036854775808≤s.used) (h1:s.used≤9223372036854775807):decide (K1 s=0)=N9 s:=by
 unfold K1 N9
 have e:decide (bOp .andNot .i64 s.used 1=0)=(decide (s.used=0)||decide (s.used=1)):=by
  rw [decide_eq_decide.2 (D1b h0 h1),Bool.decide_or]
 rw [e]
 cases ((!decide (s.g.a=0))&&(!decide (s.g.a=1)))<;>try rfl
 cases ((!decide (s.g.b=0))&&(!decide (s.g.b=1)))<;>try rfl
 cases ((!decide (s.g.c=0))&&(!decide (s.g.c=1)))<;>try rfl
 cases ((!decide (s.g.d=0))&&(!decide (s.g.d=1)))<;>try rfl
 cases decide (s.used=0)<;>cases decide (s.used=1)<;>cases decide (s.once=0)<;>cases decide (s.once=2)<;>cases decide (s.once=3)<;>rfl
theorem D1s (m:Mod):decide (S3 m=0)=Z8 m:=by
 unfold S3 Z8 A0s B0j F1
 by_cases h:m.mouse=0
 ·rw [h];rfl
 ·have e:M3 [9,1000,1002,1003] m.mouse=(((decide (m.mouse=9)||decide (m.mouse=1000))||decide (m.mouse=1002))||decide (m.mouse=1003)):=by
   by_cases h1:m.mouse=9
   ·rw [h1];rfl
   by_cases h2:m.mouse=1000
   ·rw [h2];rfl
   by_cases h3:m.mouse=1002
   ·rw [h3];rfl
   by_cases h4:m.mouse=1003
   ·rw [h4];rfl
   simp [M3,R8,M2,h1,h2,h3,h4,Ne.symm h1,Ne.symm h2,Ne.symm h3,Ne.symm h4,eq_comm]
  rw [Bool.eq_iff_iff,decide_eq_true_eq]
  dsimp only
  rw [e,decide_eq_false h]
  cases (((decide (m.mouse=9)||decide (m.mouse=1000))||decide (m.mouse=1002))||decide (m.mouse=1003))<;>simp
theorem C8i (s:Sty) (h0:-9223372036854775808≤s.attr) (h1:s.attr≤9223372036854775807):decide (D9 s=0)=L8 s:=by
 unfold L8;rw [C3i s h0 h1]
def C4y (s:Sty):Prop:=-9223372036854775808≤s.attr∧s.attr≤9223372036854775807
def C5c (s:Sts):Prop:=-9223372036854775808≤s.used∧s.used≤9223372036854775807
theorem C3n {r c t b:Int} {o:Bool} (h0:J8 r c t b o=0) (h1:1≤r∧r≤40) (h2:2≤c∧c≤80) (s:Sav) (hs:C4y s.style) (he:C5c s.sets):decide (E4 r c t b o s=0)=N0 r c t b o s:=by
 unfold E4 N0
 rw [h0,D1y h0 h1 h2,C8i _ hs.1 hs.2,C5o _ he.1 he.2]
 simp only [decide_true,Bool.not_true,cond_false]
 cases s.is_<;>cases (X9 r c t b o s.cursor&&L8 s.style&&N9 s.sets)<;>cases decide (s=Sav.zero)<;>rfl
theorem C9w (g:List (Rwc Cel)) (hg:∀ r ∈ g,∀ x ∈ r.l,aIn x):decide (K6 g=0)=V3 g:=by
 unfold K6 V3
 cases ((decide ((g.length:Int)<1))||(decide ((40:Int)<(g.length:Int))))<;>try rfl
 simp only [cond_false]
 have:∀ (l:List (Rwc Cel)) (t:Nat),(∀ r ∈ l,∀ x ∈ r.l,aIn x)→(Y2 g l t=0 ↔ W6 g l t=true):=by
  intro l
  induction l with
  | nil=>intros;exact ⟨fun _=>rfl,fun _=>rfl⟩
  | cons a l ih =>
   intro t h
   show (bif ((!decide ((H9 (a.l) (a.b))=0))||(!decide ((a.l.length:Int)=(A2k g)))) then 230 else Y2 g l (t+1))=0 ↔ (bif ((!(O0 (a.l) (a.b)))||(!decide ((a.l.length:Int)=((g.getD 0 zwc).l.length:Int)))) then false else W6 g l (t+1))=true
   have e:decide (H9 a.l a.b=0)=O0 a.l a.b:=by rw [Bool.eq_iff_iff,decide_eq_true_eq];exact C7x _ _ (h a (List.mem_cons_self ..))
   rw [e]
   show (bif ((!(O0 (a.l) (a.b)))||(!decide ((a.l.length:Int)=((g.getD 0 zwc).l.length:Int)))) then (230:Int) else _)=0 ↔ _
   cases (!O0 a.l a.b||!decide ((a.l.length:Int)=((g.getD 0 zwc).l.length:Int))) with
   | true=>exact ⟨fun q=>(by cases q),fun q=>(by cases q)⟩
   | false=>exact ih (t+1) fun r hr=>h r (List.mem_cons_of_mem _ hr)
 rw [Bool.eq_iff_iff,decide_eq_true_eq];exact this g 0 hg
theorem D0z (c:Int) (hc:2≤c∧c≤80) (p:List (Rwc Cel)) (hg:∀ r ∈ p,∀ x ∈ r.l,aIn x):decide (Y3 c p=0)=A0w c p:=by
 unfold Y3 A0w
 rw [decide_eq_false (show ¬ c<2 by omega),decide_eq_false (show ¬ 80<c by omega)]
 cases decide ((100:Int)<(p.length:Int))<;>try rfl
 simp only [cond_false,Bool.or_false]
 have:∀ (l:List (Rwc Cel)) (t:Nat),(∀ r ∈ l,∀ x ∈ r.l,aIn x)→(Y8 c l t=0 ↔ W3 c l t=true):=by
  intro l
  induction l with
  | nil=>intros;exact ⟨fun _=>rfl,fun _=>rfl⟩
  | cons a l ih =>
   intro t h
   simp only [Y8,W3]
   have e:decide (H9 a.l a.b=0)=O0 a.l a.b:=by rw [Bool.eq_iff_iff,decide_eq_true_eq];exact C7x _ _ (h a (List.mem_cons_self ..))
   rw [e,Bool.or_comm]
   cases (!O0 a.l a.b||!decide ((a.l.length:Int)=c)) with
   | true=>exact ⟨fun q=>(by cases q),fun q=>(by cases q)⟩
   | false=>exact ih (t+1) fun r hr=>h r (List.mem_cons_of_mem _ hr)
 rw [Bool.eq_iff_iff,decide_eq_true_eq];exact this p 0 hg
theorem D6k (a b c d x:Bool):(bif (((!a)||(!b))||(!c))||(!d) then false else x)=(a&&(b&&(c&&(d&&x)))):=by cases a<;>cases b<;>cases c<;>cases d<;>rfl
theorem D6w (a b c d e x:Bool):(bif ((((!a)||(!b))||(!c))||(!d))||(!e) then false else x)=(a&&(b&&(c&&(d&&(e&&x))))):=by cases a<;>cases b<;>cases c<;>cases d<;>cases e<;>rfl
theorem D5w (a b c d e x:Bool):(bif ((((!a)||(!b))||c)||d)||(!e) then false else x)=(a&&(b&&(!c&&(!d&&(e&&x))))):=by cases a<;>cases b<;>cases c<;>cases d<;>cases e<;>rfl
theorem B9r (s:ScrC) (t:Bool):K3 s t=(!t&&(!decide (s.shape<0)&&(!decide ((6:Int)<s.shape)&&(decide (J7 0 0 Col.zero s.title=0)&&(decide (s.last=0)||decide ((0:Int)<F2 s.last)))))):=by
 unfold K3
 cases t<;>cases decide (s.shape<0)<;>cases decide ((6:Int)<s.shape)<;>cases decide (J7 0 0 Col.zero s.title=0)<;>rfl
theorem B9q (s:ScrC) (t:Bool):I0 s t=(!t&&(decide (D9 s.style=0)&&(decide (K1 s.sets=0)&&(decide (S3 s.modes=0)&&K3 s false)))):=by
 unfold I0
 simp only [B9r]
 cases t<;>cases decide (D9 s.style=0)<;>cases decide (K1 s.sets=0)<;>cases decide (S3 s.modes=0)<;>simp
theorem B9d (s:ScrC) (m a p:List (Rwc Cel)) (t:List Bool) (b:Bool):J1 s m a p t b=(!b&&(D6 s m a p t m&&(D6 s m a p t a&&(decide (Y3 s.cols p=0)&&(decide ((t.length:Int)=s.cols)&&I0 s false))))):=by
 unfold J1
 simp only [B9q]
 cases b<;>cases D6 s m a p t m<;>cases D6 s m a p t a<;>cases decide (Y3 s.cols p=0)<;>cases decide ((t.length:Int)=s.cols)<;>simp
theorem C8n (s:ScrC) (m a p:List (Rwc Cel)) (t:List Bool):K2 s m a p t=(decide (F3 s.rows s.cols s.top s.bottom s.modes.origin s.cursor=0)&&(decide (E4 s.rows s.cols s.top s.bottom s.modes.origin s.kept=0)&&(decide (E4 s.rows s.cols s.top s.bottom s.modes.origin s.keptAlt=0)&&J1 s m a p t false))):=by
 unfold K2 W1 F1
 simp only [B9d]
 cases decide (F3 s.rows s.cols s.top s.bottom s.modes.origin s.cursor=0)<;>cases decide (E4 s.rows s.cols s.top s.bottom s.modes.origin s.kept=0)<;>cases decide (E4 s.rows s.cols s.top s.bottom s.modes.origin s.keptAlt=0)<;>simp
theorem C7c (s:ScrC) (m a p:List (Rwc Cel)) (t:List Bool) (hm:∀ r ∈ m,∀ x ∈ r.l,aIn x) (ha:∀ r ∈ a,∀ x ∈ r.l,aIn x) (hp:∀ r ∈ p,∀ x ∈ r.l,aIn x)
  (h1:C4y s.style) (h2:C5c s.sets) (h3:C4y s.kept.style) (h4:C5c s.kept.sets) (h5:C4y s.keptAlt.style) (h6:C5c s.keptAlt.sets):K2 s m a p t=A0r s m a p t:=by
 rw [C8n]
 unfold A0r A4c F1
 simp only [D6k,D6w,D5w]
 cases h17:M1 s.rows s.cols s.top s.bottom s.modes.origin with
 | false =>
  have h0:¬ J8 s.rows s.cols s.top s.bottom s.modes.origin=0:=fun q=>by rw [(C3h _ _ _ _ _).1 q] at h17;cases h17
  have:decide (F3 s.rows s.cols s.top s.bottom s.modes.origin s.cursor=0)=false:=by
   unfold F3;rw [decide_eq_false h0];exact decide_eq_false h0
  rw [this];rfl
 | true =>
  have h0:=(C3h _ _ _ _ _).2 h17
  have hb:1≤s.rows∧s.rows≤40∧2≤s.cols∧s.cols≤80:=by
   unfold M1 at h17
   cases hx:((((decide (s.rows<1))||(decide ((40:Int)<s.rows)))||(decide (s.cols<2)))||(decide ((80:Int)<s.cols))) with
   | true=>rw [hx] at h17;cases h17
   | false=>simp only [Bool.or_eq_false_iff,decide_eq_false_iff_not] at hx;omega
  have hs:∀ g:List (Rwc Cel),(∀ r ∈ g,∀ x ∈ r.l,aIn x)→D6 s m a p t g=O9 g s.cols s.rows:=fun g hg=>by
   unfold D6 O9
   rw [C9w g hg,Bool.and_comm (V3 g)]
  have ht:decide (J7 0 0 Col.zero s.title=0)=A1h s.title:=by
   unfold A1h;rw [C3k,Bool.eq_iff_iff,decide_eq_true_eq];exact C2p _
  rw [D1y h0 ⟨hb.1,hb.2.1⟩ hb.2.2,C3n h0 ⟨hb.1,hb.2.1⟩ hb.2.2 _ h3 h4,C3n h0 ⟨hb.1,hb.2.1⟩ hb.2.2 _ h5 h6,B9d,B9q,B9r,hs m hm,hs a ha,D0z _ hb.2.2 p hp,
   C8i _ h1.1 h1.2,C5o _ h2.1 h2.2,D1s,ht,C3d]
  simp only [Bool.not_false,Bool.true_and,Bool.not_not]
  ac_rfl
theorem C4r (s:ScrC):∀ (l:List (Rwc Cel)) (t:Nat) (o:List (List Cel)),A0a s l t o=((⟨s.cols,(⟨s.cursor.row,s.cursor.col⟩:Plc),s.modes.visible,s.shape,s.title⟩:FrmC),o++l.map Rwc.l)
 | [],t,o=>by simp [A0a]
 | a::l,t,o=>by simp only [A0a];rw [C4r];simp
theorem D3d (s:ScrC) (m a p:List (Rwc Cel)) (t:List Bool):A7r s m a p t=((⟨s.cols,(⟨s.cursor.row,s.cursor.col⟩:Plc),s.modes.visible,s.shape,s.title⟩:FrmC),(if s.onAlt then a else m).map Rwc.l):=by
 unfold A7r A4r
 rw [C4r,C4r]
 cases s.onAlt<;>rfl
theorem A2z:∀ (l:List (Rwc Cel)) (t:Nat),N4 l t=l.map Rwc.l
 | [],t=>rfl
 | a::l,t=>by simp only [N4,List.map_cons,List.take_length];rw [A2z]
theorem B4w (s:ScrC):∀ (l f:List (List Cel)),P6 s l f=((⟨s.cols,(⟨s.cursor.row,s.cursor.col⟩:Plc),s.modes.visible,s.shape,s.title⟩:FrmC),f++l)
 | [],f=>by simp [P6]
 | a::l,f=>by simp only [P6];rw [B4w];simp
theorem C7y (s:ScrC) (m a p:List (Rwc Cel)) (t:List Bool):A4l s m a p t=A7r s m a p t:=by
 unfold A4l Y5 V6
 rw [B4w,A2z,A2z,D3d]
 cases s.onAlt<;>rfl
theorem B8b (s:ScrC) (m a p:List (Rwc Cel)) (t:List Bool) (hm:∀ r ∈ m,∀ x ∈ r.l,aIn x) (ha:∀ r ∈ a,∀ x ∈ r.l,aIn x) (hp:∀ r ∈ p,∀ x ∈ r.l,aIn x)
  (h1:C4y s.style) (h2:C5c s.sets) (h3:C4y s.kept.style) (h4:C5c s.kept.sets) (h5:C4y s.keptAlt.style) (h6:C5c s.keptAlt.sets):A1v s m a p t=true:=by
 unfold A1v A7g P4 F1
 rw [C5h,C7c s m a p t hm ha hp h1 h2 h3 h4 h5 h6]
 cases A0r s m a p t with
 | false=>rfl
 | true =>
  rw [C7y]
  exact C1d _ _
end Go.Proofs.YthcjfkljekdioaaGreatDoor
