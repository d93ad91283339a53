import Derived.WalkKit
import Derived.BigQuiet
import Derived.Deep.QuietTactic
import Derived.Sort.QuietThIn
import Derived.Sort.LoopGhostIn
import Derived.LoopNIn
import Derived.RangeFuncNested
import Derived.Deep.LoopGhost
import Derived.ChangeKeysEq
import Derived.OrdersHeld
import Derived.Maps.AppendAt
set_option linter.unusedVariables false
set_option linter.unusedSimpArgs false
set_option linter.unnecessarySimpa false
set_option maxRecDepth 100000
namespace Go.Fen
open Go Go.RowKit
section
variable {F:Fence} {args:Array Value} {b:Bool} {c:Operand} {g:Bool} {i id k m:Nat} {o:Oper} {ops:Array Oper} {v:Value} {w w':World} {x y:Code} {α:Sort _} {ρ:Option Nat}
theorem Z {a:α}:a=a:=rfl
theorem jQ {p:Prop} [Decidable p] (h:p):decide p=true:=decide_eq_true h
theorem jX {p:Prop} [Decidable p] (h:¬p):decide p=false:=decide_eq_false h
theorem jJ {α β:Sort _} {f:α→β}:∀ x,f x=f x:=fun _=>rfl
theorem jK {α:Type _} {l:List α}:l.Perm l:=List.Perm.refl _
theorem jU {α:Type _} {a:α} {l:List α}:a∈a::l:=List.mem_cons_self ..
theorem jV {p:Prop} (h:p:=by have:=a.1;omega):p:=h
theorem jW {p:Prop} (h:p:=by simp [Int.fdiv_eq_ediv_of_nonneg,IntKind.bits]):p:=h
abbrev jx:List UInt8:=[]
abbrev Hp:=Nat→Option Obj
def Hp.le (h a:Hp):Prop:=∀ b o,h b=some o→a b=some o
def Hp.sub (h:Hp) (w:World):Prop:=∀ b o,h b=some o→w.heap[b]?=some o
theorem Hp.le_refl (h:Hp):h.le h:=fun _ _ e=>e
theorem Hp.le_trans {a b c:Hp} (h:a.le b) (k:b.le c):a.le c:=fun i o e=>k i o (h i o e)
structure Pers where
 p:Hp→Prop
 mono:∀ {h h':Hp},h.le h'→p h→p h'
abbrev Own:=List (Nat×Obj)
abbrev cA:=List (Nat×Value)
structure Cx where
 w0:World
 h0:Hp
 M:List Nat
 rho:Option Nat
 D:List (Nat×Obj)
def FW (ρ:Option Nat):Fence:={fn:=fun _=>True,depth:=none,alive:=false,round:=ρ}
theorem B8h {P:Program} {f:FuncId} {R:Ending→World→Prop} (h:Calls P f args w R):CallsIn (FW ρ) k P f args w R :=
 (callsIn_wide (n:=k)).2 h
theorem F9k {P:Program} {row:String} {R:Value→World→Prop} (h:Rows P row args w R):RowsIn (FW ρ) k P row args w R :=
 fun c cs _=>let ⟨v,w',hR,hs⟩:=h c cs;⟨v,w',hR,stepsIn_wide.2 hs⟩
theorem B0x:(FW ρ).depth.isSome=true→1≤k:=by simp[FW]
def C8y:Op→Bool
 | .defer _=>true
 | _=>false
theorem B0w {P:Program} {a:Act} {K:Act→World→Prop} {Q:Exit→Act→World→Prop} (b:C8y o.op=false) (h:o.wp P a w K Q):o.wpIn (FW ρ) 0 P a w K Q:=by
 refine ⟨fun _ _=>trivial,?_⟩
 rw [Oper.semAt_eq _ _ _ (fun c e=>by rw [e] at b;cases b)]
 unfold Oper.wp at h
 revert h
 generalize (execOp a.eval o).run P w=r
 intro h
 cases r with
 | ok x w' =>
  cases x with
  | value v=>exact h
  | skip=>exact h
  | defer d=>exact h
  | enter f args=>exact ⟨B0x,B8h h⟩
  | row row args=>exact ⟨B0x,F9k h⟩
  | _=>exact h.elim
 | halt x w'=>cases x<;>first | exact h | exact h.elim
def C3c (d:Nat):Deferred:={target:=.collected d,args:=#[]}
def Cx.marks (X:Cx):List Deferred:=match X.rho with | none=>X.D.map (C3c ·.1) | some _=>[]
structure KeptBut (M:List Nat) (w w':World):Prop where
 os:w'.os=w.os
 tape:w'.tape=w.tape
 output:w'.output=w.output
 size:w.heap.size≤w'.heap.size
 block:∀ k,k<w.heap.size→k ∉ M→w'.heap[k]?=w.heap[k]?
theorem KeptBut.refl (M:List Nat) (w:World):KeptBut M w w:=⟨rfl,rfl,rfl,Nat.le_refl _,fun _ _ _=>Z⟩
theorem oom {p:Prop} (h:p:=by simp):p:=h
theorem KeptBut.below (h:KeptBut [] w w'):Below w.heap.size w w':=⟨h.os,h.tape,h.output,h.size,fun k a=>h.block k a oom⟩
theorem KeptBut.trans {M:List Nat} {a b c:World} (h:KeptBut M a b) (k:KeptBut M b c):KeptBut M a c :=
 ⟨k.os.trans h.os,k.tape.trans h.tape,k.output.trans h.output,Nat.le_trans h.size k.size,fun i e d=>(k.block i (Nat.lt_of_lt_of_le e h.size) d).trans (h.block i e d)⟩
def A5x (L:Own) (h:Hp) (w:World):Prop:=(∀ e ∈ L,w.heap[e.1]?=some e.2∧h e.1=none)∧(L.map Prod.fst).Nodup
structure StH (X:Cx) (L:Own) (Φ:List Pers) (h:Hp) (w:World):Prop where
 facts:∀ q ∈ Φ,q.p h
 sub:h.sub w
 le:X.h0.le h
 dom:∀ b,h b≠none→X.h0 b≠none∨(b ∈ X.M∨X.w0.heap.size≤b)
 own:A5x L h w
 may:∀ e ∈ L,e.1 ∈ X.M∨X.w0.heap.size≤e.1
 kept:KeptBut X.M X.w0 w
 res:∀ d ∈ X.D,w.heap[d.1]?=some d.2∧h d.1=none∧(∀ e ∈ L,e.1≠d.1)∧(X.w0.heap.size≤d.1∨d.1 ∈ X.M)
def cG (X:Cx) (L:Own) (Φ:List Pers) (w:World):Prop:=∃ h,StH X L Φ h w
def Has (a:Act) (E:cA):Prop:=∀ t v,E.lookup t=some v→a.tmps[t]?=some v
structure St (n:Nat) (X:Cx) (E:cA) (L:Own) (Φ:List Pers) (a:Act) (w:World):Prop where
 size:a.tmps.size=n
 defers:a.defers=X.marks
 has:Has a E
 world:cG X L Φ w
def ev (E:cA):Operand→Option Value
 | .tmp t=>E.lookup t
 | .const v=>some v
 | .global g=>some (.pointer (some ⟨g,0,none⟩))
 | .func f=>some (.func (.func f) #[] #[])
theorem D5 {a:Act} {E:cA} (h:Has a E) {x:Operand} (e:ev E x=some v):a.eval x=v:=by
 cases x with
 | tmp t=>have:=h t v e;simp_all[Act.eval]
 | const u=>grind[ev,Act.eval]
 | global g=>grind[ev,Act.eval]
 | func f=>grind[ev,Act.eval]
theorem Has.put {a:Act} {E:cA} (h:Has a E) {d:Nat} (b:d<a.tmps.size) (v:Value):Has (a.put (some d) v) ((d,v)::E):=by
 intro t u e
 simp only [Act.put]
 by_cases ht:t=d
 ·grind
 ·have:(t == d)=false:=by grind
  simp only [List.lookup,this] at e
  rw [Array.getElem?_setIfInBounds,if_neg (fun e=>ht e.symm)]
  exact h t u e
theorem Act.put_size (a:Act) (d:Option Nat) (v:Value):(a.put d v).tmps.size=a.tmps.size:=by cases d<;>simp [Act.put]
theorem Act.put_defers' (a:Act) (d:Option Nat) (v:Value):(a.put d v).defers=a.defers:=by cases d<;>rfl
def cA.put (E:cA) (d:Option Nat) (v:Value):cA:=match d with | some d=>(d,v)::E | none=>E
def A1m (n:Nat):Option Nat→Bool | some d=>Nat.blt d n | none=>true
theorem St.put {n:Nat} {X:Cx} {E:cA} {L L':Own} {Φ Φ':List Pers} {a:Act} (h:St n X E L Φ a w) {d:Option Nat} (b:A1m n d=true) (v:Value) (c:cG X L' Φ' w'):St n X (cA.put E d v) L' Φ' (a.put d v) w':=by
 refine ⟨by rw [Act.put_size,h.size],by rw [Act.put_defers',h.defers],?_,c⟩
 cases d with
 | none=>exact h.has
 | some d=>exact h.has.put (by rw [h.size];grind[A1m,Nat.blt_eq]) v
section
variable (P:Program) (n:Nat) (X:Cx)
def J (c:Code) (Q:Exit→Act→World→Prop) (E:cA) (L:Own) (Φ:List Pers):Prop:=∀ a w,St n X E L Φ a w→c.wpIn (FW X.rho) 0 P Q a w
def JQ (K:Act→World→Prop) (E:cA) (L:Own) (Φ:List Pers):Prop:=∀ a w,St n X E L Φ a w→K a w
def JI (ops:Array Oper) (i m:Nat) (K:Act→World→Prop) (Q:Exit→Act→World→Prop) (E:cA) (L:Own) (Φ:List Pers):Prop :=
 ∀ a w,St n X E L Φ a w→wpListIn (FW X.rho) 0 P ops (Exit.then K Q) ((ops.toList.drop i).take m) a w
end
section
variable {P:Program} {n:Nat} {X:Cx} {K:Act→World→Prop} {Q:Exit→Act→World→Prop} {E E':cA} {L L':Own} {Φ Φ':List Pers}
theorem A3 (h:J P n X x (Exit.then (fun a w=>y.wpIn (FW X.rho) 0 P Q a w) Q) E L Φ):J P n X (.seq x y) Q E L Φ:=fun a w b=>wpIn_seq (h a w b)
theorem E7n (Q:Exit→Act→World→Prop):Exit.then (Q .normal) Q=Q:=by funext e a w;cases e<;>rfl
theorem A0 (m:Nat) (b:ops.size=m) (h:JI P n X ops 0 m (Q .normal) Q E L Φ):J P n X (.region id ops false) Q E L Φ:=fun a w c=>wpIn_region_list (by
 have:=h a w c
 grind[E7n,List.take_of_length_le])
theorem A4 (h:JQ n X (Q .normal) E L Φ):J P n X .skip Q E L Φ:=fun a w b=>wpIn_skip (h a w b)
theorem A9 {c:Code} (h:J P n X c (Exit.inBlock id Q) E L Φ):J P n X (.block id c) Q E L Φ:=fun a w b=>wpIn_block (h a w b)
theorem F1 (h:JQ n X (Q (.exit id)) E L Φ):J P n X (.exit id) Q E L Φ:=fun a w b=>wpIn_exit (h a w b)
theorem A8 (h:JQ n X (Q .ret) E L Φ):J P n X .ret Q E L Φ:=fun a w b=>wpIn_ret (h a w b)
theorem G3 (h:ev E c=some (.bool g)) (f:g=true→J P n X x Q E L Φ) (d:g=false→J P n X y Q E L Φ):J P n X (.cond c x y) Q E L Φ :=
 fun a w b=>wpIn_cond_split (D5 b.has h) (fun e=>f e a w b) (fun e=>d e a w b)
theorem K1 (b:ev E c=some (.bool true)) (a:J P n X x Q E L Φ):J P n X (.cond c x y) Q E L Φ:=by grind[G3]
theorem A5t (b:ev E c=some (.bool false)) (a:J P n X y Q E L Φ):J P n X (.cond c x y) Q E L Φ:=by grind[G3]
theorem A1 (h:JQ n X K E L Φ):JI P n X ops i 0 K Q E L Φ:=fun a w b=>by
 rw [List.take_zero];exact wpListIn_nil (h a w b)
def Tri (P:Program) (n:Nat) (X:Cx) (o:Oper) (E:cA) (L:Own) (Φ:List Pers) (α:Type) (val:α→Value) (L':α→Own) (Φ':α→List Pers):Prop :=
 ∀ a w (K:Act→World→Prop) (Q:Exit→Act→World→Prop),St n X E L Φ a w→(∀ x w',cG X (L' x) (Φ' x) w'→K (a.put o.dst (val x)) w')→o.wpIn (FW X.rho) 0 P a w K Q
def B3p (ops:Array Oper) (o:Oper) (E:cA):Option Bool :=
 match o.guard with
 | none=>some true
 | some (j,want)=>match ((ops[j]?).bind (·.dst)).bind (E.lookup ·) with
  | some (.bool b)=>some (b == want)
  | some (.tuple _)=>some false
  | _=>none
theorem A6d {a:Act} (k:Has a E) (h:B3p ops o E=some b):Region.wanted o (yielded ops a.tmps)=b:=by
 unfold B3p at h
 unfold Region.wanted
 split at h
 ·simp_all
 ·rename_i j f l
  simp only [l]
  split at h
  ·rename_i c i
   obtain ⟨d,g,e⟩:=Option.bind_eq_some_iff.1 i
   have:=k d _ e
   grind[Option.some.injEq,yielded]
  ·rename_i vs i
   obtain ⟨d,g,e⟩:=Option.bind_eq_some_iff.1 i
   have:=k d _ e
   grind[yielded]
  ·cases h
theorem B6y (h:ops[i]?=some o):ops.toList.drop i=o::ops.toList.drop (i+1):=by grind[List.drop_eq_getElem_cons]
theorem D5v {α:Type} {val:α→Value} {L':α→Own} {Φ':α→List Pers} (e:ops[i]?=some o) (g:B3p ops o E=some true) (d:A1m n o.dst=true)
  (f:Tri P n X o E L Φ α val L' Φ') (h:∀ x,JI P n X ops (i+1) m K Q (cA.put E o.dst (val x)) (L' x) (Φ' x)):JI P n X ops i (m+1) K Q E L Φ:=by
 intro a w c
 rw [B6y e,List.take_succ_cons]
 refine wpListIn_step fun K j=>?_
 rw [if_pos (A6d c.has g)]
 exact f a w K _ c fun x w' b=>j _ _ (h x _ _ (c.put d _ b))
theorem F1j (d:ops[i]?=some o) (f:B3p ops o E=some false) (c:A1m n o.dst=true)
  (h:JI P n X ops (i+1) m K Q (cA.put E o.dst undef) L Φ):JI P n X ops i (m+1) K Q E L Φ:=by
 intro a w b
 rw [B6y d,List.take_succ_cons]
 refine wpListIn_step fun K e=>?_
 rw [if_neg (by rw [A6d b.has f];simp)]
 exact ⟨fun _ _=>trivial,e _ _ (h _ _ (b.put c _ b.world))⟩
def Det (P:Program) (X:Cx) (o:Oper) (E:cA) (L:Own) (Φ:List Pers) (v:Value):Prop:=∀ a,Has a E→∀ w,cG X L Φ w→o.quietAt P a (cG X L Φ) w v
theorem Det.tri (h:Det P X o E L Φ v):Tri P n X o E L Φ Unit (fun _=>v) (fun _=>L) (fun _=>Φ):=by
 intro a w K Q' g j
 have b:=h a g.has w g.world
 have i:C8y o.op=false:=by
  cases ho:o.op with
  | defer c =>
   exfalso
   unfold Oper.quietAt at b
   have:(execOp a.eval o).run P w=Result.andThen ((resolve a.eval c o.type).run P w) fun d=>(pure (Next.defer d):Sem Next).run P:=by
    simp [execOp,ho]
    rfl
   rw [this] at b
   cases hr:(resolve a.eval c o.type).run P w with
   | ok d w'=>rw [hr] at b;exact b.elim
   | halt x w'=>rw [hr] at b;exact b.elim
  | _=>rfl
 refine B0w i ?_
 unfold Oper.quietAt Oper.quietUpon at b
 unfold Oper.wp Oper.upon
 split at b
 ·rename_i u w' hr;rw [hr];obtain ⟨rfl,rfl⟩:=b;exact j () _ g.world
 ·rename_i w' hr;rw [hr];obtain ⟨rfl,rfl⟩:=b;exact j () _ g.world
 ·rename_i f args w' hr;rw [hr];obtain ⟨rfl,p⟩:=b
  exact p.mono fun e l ⟨m,k⟩=>by simp_all
 grind
theorem E2k (b:ops[i]?=some o) (d:B3p ops o E=some true) (a:A1m n o.dst=true)
  (c:Det P X o E L Φ v) (h:JI P n X ops (i+1) m K Q (cA.put E o.dst v) L Φ):JI P n X ops i (m+1) K Q E L Φ:=D5v b d a c.tri fun _=>h
theorem Has.weaken {a:Act} (h:Has a E) (hE:∀ e ∈ E',E.lookup e.1=some e.2):Has a E':=by
 intro t v e
 induction E' with
 | nil=>grind
 | cons x xs ih =>
  obtain ⟨c,d⟩:=x
  by_cases ht:t=c
  ·subst ht
   simp [List.lookup] at e
   subst e
   exact h _ _ (hE (t,d) oom)
  grind
def R0 (E:cA):cA→Prop
 | []=>True
 | (t,v)::rest=>E.lookup t=some v∧R0 E rest
theorem Q2:∀ {E':cA},R0 E E'→∀ e ∈ E',E.lookup e.1=some e.2
 | [],_,e,he=>by cases he
 | (t,v)::rest,h,e,he=>by
  rcases List.mem_cons.1 he with rfl | he
  ·exact h.1
  ·exact Q2 h.2 e he
theorem St.env {a:Act} (h:St n X E L Φ a w) (hE:R0 E E'):St n X E' L Φ a w:=⟨h.size,h.defers,h.has.weaken (Q2 hE),h.world⟩
theorem cG.mono (h:cG X L Φ w) (hΦ:∀ q ∈ Φ',q ∈ Φ):cG X L Φ' w:=let ⟨p,hp⟩:=h;⟨p,⟨fun q a=>hp.facts q (hΦ q a),hp.sub,hp.le,hp.dom,hp.own,hp.may,hp.kept,hp.res⟩⟩
theorem cG.fact (h:cG X L Φ w) (q:Pers) (c:∀ p:Hp,(∀ q ∈ Φ,q.p p)→q.p p):cG X L (q::Φ) w :=
 let ⟨p,hp⟩:=h;⟨p,⟨fun b a=>by rcases List.mem_cons.1 a with rfl | a;exact c _ hp.facts;exact hp.facts b a,hp.sub,hp.le,hp.dom,hp.own,hp.may,hp.kept,hp.res⟩⟩
theorem F9f (q:Pers) (c:∀ p:Hp,(∀ q ∈ Φ,q.p p)→q.p p) (h:JI P n X ops i m K Q E L (q::Φ)):JI P n X ops i m K Q E L Φ :=
 fun a w b=>h a w ⟨b.size,b.defers,b.has,b.world.fact q c⟩
theorem G1c {c:Code} (q:Pers) (d:∀ p:Hp,(∀ q ∈ Φ,q.p p)→q.p p) (h:J P n X c Q E L (q::Φ)):J P n X c Q E L Φ :=
 fun a w b=>h a w ⟨b.size,b.defers,b.has,b.world.fact q d⟩
theorem D6b {c:Code} (E':cA) (hE:R0 E E') (h:J P n X c Q E' L Φ):J P n X c Q E L Φ:=fun a w b=>h a w (b.env hE)
theorem Has.lit {a:Act} (c:Has a E) {t:Nat} (f:E.lookup t=some (.bool g)) (hb:g=b):Has a ((t,.bool b)::E):=by
 intro d v e
 by_cases he:d=t
 ·subst he;simp [List.lookup] at e;subst e;rw [← hb];exact c _ _ f
 ·have:(d == t)=false:=by grind
  simp only [List.lookup,this] at e
  exact c _ _ e
theorem E7r (t:Nat) (g:Bool) (c:E.lookup t=some (.bool g)) (e:g=true→JI P n X ops i m K Q ((t,.bool true)::E) L Φ) (d:g=false→JI P n X ops i m K Q ((t,.bool false)::E) L Φ):JI P n X ops i m K Q E L Φ:=by
 intro a w b
 cases hg:g with
 | true=>exact e hg a w ⟨b.size,b.defers,b.has.lit c hg,b.world⟩
 | false=>exact d hg a w ⟨b.size,b.defers,b.has.lit c hg,b.world⟩
theorem D2d {a:Act} {K K':Act→World→Prop} {Q Q':Exit→Act→World→Prop} (g:∀ a w,K a w→K' a w) (j:∀ c a w,Q (.panic c) a w→Q' (.panic c) a w) (m:LetsOut Q→LetsOut Q') {r:Result Next} (h:o.uponIn F k P a K Q r):o.uponIn F k P a K' Q' r:=by
 cases r with
 | ok x w' =>
  cases x with
  | value v=>exact g _ _ h
  | skip=>exact g _ _ h
  | defer d=>exact g _ _ h
  | enter f args=>exact ⟨h.1,h.2.mono fun e i b=>by
    grind⟩
  | row row args=>exact ⟨h.1,h.2.mono fun v i b=>g _ _ b⟩
  | round l f tmps assign body=>exact ⟨h.1,h.2.mono fun e i b=>by
    grind⟩
  | _=>exact h.elim
 | halt x w'=>cases x<;>first | exact j _ _ _ h | exact h.elim
theorem C6g {K:Act→World→Prop}:∀ (b d:List Oper) (a:Act) (w:World),wpListIn F k P ops (Exit.then K Q) b a w→(∀ a w,K a w→wpListIn F k P ops Q d a w)→wpListIn F k P ops Q (b++d) a w
 | [],_,a,w,h,hk=>hk a w h
 | o::b,d,a,w,h,hk=>by
  simp only [List.cons_append,wpListIn] at h ⊢
  have f:=fun a w h=>C6g b d a w h hk
  split
  ·rename_i e
   rw [if_pos e] at h
   exact ⟨h.1,D2d (fun a w h=>f a w h) (fun c a w h=>h) (fun h=>h) h.2⟩
  ·rename_i e
   rw [if_neg e] at h
   exact ⟨h.1,f _ _ h.2⟩
theorem F3d (K K':Act→World→Prop) (Q:Exit→Act→World→Prop):Exit.then K (Exit.then K' Q)=Exit.then K Q:=by funext e a w;cases e<;>rfl
theorem F6r (k m:Nat) (E1:cA) (L1:Own) (Φ1:List Pers) (h:JI P n X ops i k (fun a w=>St n X E1 L1 Φ1 a w) Q E L Φ) (c:JI P n X ops (i+k) m K Q E1 L1 Φ1):JI P n X ops i (k+m) K Q E L Φ:=by
 intro a w d
 rw [List.take_add,List.drop_drop]
 refine C6g (K:=fun a w=>St n X E1 L1 Φ1 a w) _ _ a w ?_ fun a w b=>c a w b
 rw [F3d]
 exact h a w d
end
end
section
variable {a:Act} {i:TypeInfo} {o:Oper} {t:TypeId} {v:Value}
def cH (c:BinOp) (k:IntKind) (a b:Int):Int :=
 k.wrap (match c with
  | .and=>BitVec.ofInt k.bits a &&& BitVec.ofInt k.bits b
  | .or=>BitVec.ofInt k.bits a ||| BitVec.ofInt k.bits b
  | .xor=>BitVec.ofInt k.bits a ^^^ BitVec.ofInt k.bits b
  | _=>BitVec.ofInt k.bits a &&& ~~~BitVec.ofInt k.bits b:BitVec k.bits).toNat
def C5c (c:BinOp) (u v:Value):Option Value :=
 match c,u,v with
 | .lss,.int j a,.int k b=>if j=k then some (.bool (decide (a<b))) else none
 | .leq,.int j a,.int k b=>if j=k then some (.bool (decide (a≤b))) else none
 | .gtr,.int j a,.int k b=>if j=k then some (.bool (decide (b<a))) else none
 | .geq,.int j a,.int k b=>if j=k then some (.bool (decide (b≤a))) else none
 | .eql,.int j a,.int k b=>if j=k then some (.bool (decide (a=b))) else none
 | .neq,.int j a,.int k b=>if j=k then some (.bool (!decide (a=b))) else none
 | .add,.int j a,.int k b=>if j=k then some (.int j (j.wrap (a+b))) else none
 | .sub,.int j a,.int k b=>if j=k then some (.int j (j.wrap (a - b))) else none
 | .mul,.int j a,.int k b=>if j=k then some (.int j (j.wrap (a * b))) else none
 | .and,.int j a,.int k b=>if j=k then some (.int j (cH .and j a b)) else none
 | .or,.int j a,.int k b=>if j=k then some (.int j (cH .or j a b)) else none
 | .xor,.int j a,.int k b=>if j=k then some (.int j (cH .xor j a b)) else none
 | .andNot,.int j a,.int k b=>if j=k then some (.int j (cH .andNot j a b)) else none
 | .eql,.string a,.string b=>some (.bool (a.toList == b.toList))
 | .neq,.string a,.string b=>some (.bool (!(a.toList == b.toList)))
 | _,_,_=>none
def F1p:Option TypeDesc→Option Value→Option Value
 | some (.slice _),some (.slice _ l _)=>some (.int .i64 l)
 | some .string,some (.string s)=>some (.int .i64 s.size)
 | _,_=>none
def E2s (c:Bool) (u v:Option Value) (n:Nat):Option Value :=
 match u,v with
 | some (.int j a),some (.int k b)=>if j=k∧n=2 then some (.int j (if c then (if b > a then b else a) else (if b<a then b else a))) else none
 | _,_=>none
def B7e (P:Program) (E:cA):Op→Option Value
 | .move x=>ev E x
 | .assign x=>ev E x
 | .pick c a b=>match ev E c with
  | some (.bool true)=>ev E a
  | some (.bool false)=>ev E b
  | _=>none
 | .binOp op _ x y _=>match ev E x,ev E y with
  | some u,some v=>C5c op u v
  | _,_=>none
 | .unOp op _ x=>match op,ev E x with
  | .not,some (.bool b)=>some (.bool !b)
  | .neg,some (.int k m)=>some (.int k (k.wrap (0 - m)))
  | _,_=>none
 | .extract t i=>match ev E t with
  | some (.tuple vs)=>vs[i]?
  | _=>none
 | .makeFunc fn first cap=>match first.toList.mapM (ev E),cap.toList.mapM (ev E) with
  | some fs,some cs=>some (.func fn fs.toArray cs.toArray)
  | _,_=>none
 | .call c=>match c.callee,c.args[0]?,c.argTypes[0]? with
  | .builtin .len,some x,some t=>F1p (P.underlying t) (ev E x)
  | .builtin .max,some x,_=>E2s true (ev E x) (c.args[1]?.bind (ev E)) c.args.size
  | .builtin .min,some x,_=>E2s false (ev E x) (c.args[1]?.bind (ev E)) c.args.size
  | _,_,_=>none
 | .nilCheck x=>match ev E x with
  | some (.pointer (some a))=>some (.pointer (some a))
  | _=>none
 | .convert S T x=>match P.underlying S,P.underlying T,ev E x with
  | some _,some (.int k),some (.int _ m)=>some (.int k (k.wrap m))
  | _,_,_=>none
 | .fieldAddr s x f=>match P.underlying s,ev E x with
  | some (.struct fields),some (.pointer (some a))=>match fields[f]? with
   | some fd=>match P.info? fd.type with
    | some i=>if i.size=0 then none else some (.pointer (some (a.add fd.offset)))
    | none=>none
   | none=>none
  | _,_=>none
 | .field s x f=>match P.underlying s,ev E x with
  | some (.struct fields),some (.agg cs)=>match fields[f]? with
   | some fd=>match P.underlying fd.type,P.info? fd.type with
    | some (.struct _),some i=>some (.agg (cs.extract fd.offset (fd.offset+i.size)))
    | some (.array _ _),some i=>some (.agg (cs.extract fd.offset (fd.offset+i.size)))
    | some _,some _=>cs[fd.offset]?
    | _,_=>none
   | none=>none
  | _,_=>none
 | _=>none
section
variable {P:Program} {n:Nat} {X:Cx} {Q:Exit→Act→World→Prop} {E E':cA} {L L':Own} {Φ Φ':List Pers}
def J8 (P:Program) (X:Cx) (o:Oper) (E:cA) (L:Own) (Φ:List Pers) (v:Value):Prop:=∀ a w,Has a E→cG X L Φ w→(execOp a.eval o).run P w=.ok (.value v) w
theorem J8.of_run (h:∀ a w,Has a E→cG X L Φ w→(execOp a.eval o).run P w=.ok (.value v) w):J8 P X o E L Φ v:=h
theorem Det.of_run (h:∀ a w,Has a E→cG X L Φ w→(execOp a.eval o).run P w=.ok (.value v) w):Det P X o E L Φ v:=by
 intro a c w b
 unfold Oper.quietAt
 rw [h a w c b]
 exact ⟨rfl,rfl⟩
theorem B5m (h:P.info? t=some i) (w:World):(typeInfo t).run P w=.ok i w:=by
 simp [typeInfo,h]
theorem A9r (h:P.info? t=some i) (w:World):(sizeOf t).run P w=.ok i.size w:=by
 simp [sizeOf,B5m h]
theorem E5z {a:BinOp} {u r:Value} (h:C5c a u v=some r) (t:TypeId) (x y:Operand) (w:World) :
  (do eqGuard a t x y u v;binOp a t u v:Sem Value).run P w=.ok r w:=by
 unfold C5c at h
 split at h<;>(try split at h)<;>simp only [Option.some.injEq,reduceCtorEq] at h<;>(try subst h)<;>(try subst_vars) <;>
  simp [eqGuard,binOp,Op.intCmp,Op.intArith,Op.stringOp,Op.intBits,cH]<;>rfl
theorem F0i (c:Has a E):∀ {xs:List Operand} {vs:List Value},xs.mapM (ev E)=some vs→xs.map a.eval=vs
 | [],vs,h=>by grind
 | x::xs,vs,h=>by
  simp only [List.mapM_cons,Option.bind_eq_bind,Option.bind_eq_some_iff] at h
  obtain ⟨v,d,us,b,h⟩:=h
  simp only [Option.pure_def,Option.some.injEq] at h
  subst h
  simp [D5 c d,F0i c b]
theorem B5l (b:Has a E) {xs:Array Operand} {vs:List Value} (h:xs.toList.mapM (ev E)=some vs):xs.map a.eval=vs.toArray:=by
 have:=F0i b h
 grind
theorem C5l {d:TypeDesc} (h:P.underlying t=some d) (w:World):(isAgg t).run P w=.ok (match d with | .struct _ | .array _ _=>true | _=>false) w:=by
 unfold isAgg
 rw [Sem.run_bind,run_underlying h]
 cases d<;>rfl
theorem F5a {c:Call} {s:Bool} {x:Operand} (n:Has a E) (t:o.op=.call c) (f:(c.callee=.builtin .max∧s=true)∨(c.callee=.builtin .min∧s=false)) (e:c.args[0]?=some x)
  (h:E2s s (ev E x) (c.args[1]?.bind (ev E)) c.args.size=some v) (w:World):(execOp a.eval o).run P w=.ok (.value v) w:=by
 unfold E2s at h
 split at h
 ·rename_i j m k l u i
  split at h
  ·rename_i r
   obtain ⟨rfl,g⟩:=r
   simp only [Option.some.injEq] at h
   obtain ⟨y,d,i⟩:=Option.bind_eq_some_iff.1 i
   obtain ⟨xs⟩:∃ xs:List Operand,c.args=xs.toArray:=⟨c.args.toList,by simp⟩
   rename_i b
   rw [b] at e d g
   match xs,e,d,g with
   | [p,q],e,d,_ =>
    simp at e d
    subst e d
    rcases f with ⟨f,rfl⟩ | ⟨f,rfl⟩
    ·subst h
     simp [execOp,t,resolve,f,b,D5 n u,D5 n i,invoke,builtin,Builtin.max_,Builtin.max2]
    ·subst h
     simp [execOp,t,resolve,f,b,D5 n u,D5 n i,invoke,builtin,Builtin.min_,Builtin.min2]
  ·cases h
 ·cases h
theorem D6y (h:B7e P E o.op=some v) (a:Act) (w:World) (f:Has a E):(execOp a.eval o).run P w=.ok (.value v) w:=by
 unfold B7e at h
 split at h<;>(rename_i b)
 ·simp [execOp,b,D5 f h]
 ·simp [execOp,b,D5 f h]
 ·split at h
  ·rename_i g
   simp [execOp,b,D5 f g,asBool,D5 f h]
  ·rename_i g
   simp [execOp,b,D5 f g,asBool,D5 f h]
  ·cases h
 ·split at h
  ·rename_i c s
   have:=E5z (P:=P) h
   simp only [execOp,b,D5 f c,D5 f s]
   rw [Sem.run_bind,this]
   rfl
  ·cases h
 ·split at h
  ·rename_i c
   simp only [Option.some.injEq] at h;subst h
   simp [execOp,b,D5 f c,Op.unary]
  ·rename_i c
   simp only [Option.some.injEq] at h;subst h
   simp [execOp,b,D5 f c,Op.unary,Op.intArith]
  ·cases h
 ·split at h
  ·rename_i c
   simp only [execOp,b,D5 f c,Instr.extract,h]
   simp
  ·cases h
 ·split at h
  ·rename_i k m
   simp only [Option.some.injEq] at h;subst h
   simp only [execOp,b,B5l f k,B5l f m,Instr.makeFunc]
   rfl
  ·cases h
 ·split at h
  ·rename_i g c r
   unfold F1p at h
   split at h
   ·rename_i j q
    simp only [Option.some.injEq] at h;subst h
    simp [execOp,b,resolve,g,c,r,D5 f q,invoke,builtin,Builtin.len_,run_underlying j,goInt]
   ·rename_i j q
    simp only [Option.some.injEq] at h;subst h
    simp [execOp,b,resolve,g,c,r,D5 f q,invoke,builtin,Builtin.len_,run_underlying j,goInt]
   ·cases h
  ·rename_i g c
   exact F5a f b (.inl ⟨g,rfl⟩) c h w
  ·rename_i g c
   exact F5a f b (.inr ⟨g,rfl⟩) c h w
  ·cases h
 ·split at h
  ·rename_i c
   simp only [Option.some.injEq] at h;subst h
   simp [execOp,b,D5 f c]
  ·cases h
 ·split at h
  ·rename_i x y c
   simp only [Option.some.injEq] at h;subst h
   simp [execOp,b,D5 f c,convert,run_underlying y,run_underlying x,Conv.intToInt]
  ·cases h
 ·split at h
  ·rename_i j c
   split at h
   ·rename_i n
    split at h
    ·rename_i u
     split at h
     ·cases h
     ·rename_i hz
      simp only [Option.some.injEq] at h;subst h
      simp [execOp,b,Instr.fieldAt,D5 f c,run_underlying j,n,Instr.sureAddr,fieldPlace,A9r u,hz]
    ·cases h
   ·cases h
  ·cases h
 ·split at h
  ·rename_i j c
   split at h
   ·rename_i n
    split at h
    ·rename_i k m
     simp only [Option.some.injEq] at h;subst h
     simp [execOp,b,Instr.field,D5 f c,run_underlying j,n,asAgg,part,C5l k,A9r m]
    ·rename_i k m
     simp only [Option.some.injEq] at h;subst h
     simp [execOp,b,Instr.field,D5 f c,run_underlying j,n,asAgg,part,C5l k,A9r m]
    ·rename_i d i t z k m
     have p:(isAgg _).run P w=.ok false w:=(C5l k w).trans (by
      cases d with
      | struct fs=>exact absurd Z (t fs)
      | array l e=>exact absurd Z (z l e)
      | _=>rfl)
     simp [execOp,b,Instr.field,D5 f c,run_underlying j,n,asAgg,part,p,h]
    ·cases h
   ·cases h
  ·cases h
 ·cases h
end
end
section
variable {C:World→Prop} {K':Act→World→Prop} {Q':Exit→Act→World→Prop} {R:Act→World→Prop} {T TT:Nat} {a:Act} {b:Nat} {cs:List Value} {i id m:Nat} {o:Oper} {off:Nat} {ops:Array Oper} {p:Hp} {sz:Nat} {us:List Value} {v:Value} {w:World} {x:Operand} {ρ:Option Nat}
section
variable {P:Program} {n:Nat} {X:Cx} {K:Act→World→Prop} {Q:Exit→Act→World→Prop} {E E':cA} {L L':Own} {Φ Φ':List Pers}
def B7t (P:Program) (n:Nat) (ops:Array Oper) (o:Oper) (E:cA):Option cA :=
 match B3p ops o E,A1m n o.dst with
 | some true,true=>match B7e P E o.op with
  | some v=>some (cA.put E o.dst v)
  | none=>none
 | some false,true=>some (cA.put E o.dst undef)
 | _,_=>none
def B1g (P:Program) (n:Nat) (ops:Array Oper):Nat→Nat→cA→Option cA
 | 0,_,E=>some E
 | m+1,i,E=>match ops[i]? with
  | some o=>match B7t P n ops o E with
   | some E'=>B1g P n ops m (i+1) E'
   | none=>none
  | none=>none
def C5r (E:cA):cA→Option cA
 | []=>some []
 | (t,_)::rest=>match E.lookup t,C5r E rest with
  | some v,some r=>some ((t,v)::r)
  | _,_=>none
theorem C5f:∀ {E' R:cA},C5r E E'=some R→R0 E R
 | [],R,h=>by simp [C5r] at h;subst h;trivial
 | (t,u)::rest,R,h=>by
  unfold C5r at h
  split at h
  ·rename_i v r a hr
   simp only [Option.some.injEq] at h;subst h
   exact ⟨a,C5f hr⟩
  ·cases h
def F4k (P:Program) (n:Nat) (ops:Array Oper) (m i:Nat) (E E':cA):Option cA:=match B1g P n ops m i E with | some R=>C5r R E' | none=>none
theorem J8.pure (h:B7e P E o.op=some v):J8 P X o E L Φ v:=fun a w b _=>D6y h a w b
theorem J8.det (h:J8 P X o E L Φ v):Det P X o E L Φ v:=.of_run h
theorem Det.pure (h:B7e P E o.op=some v):Det P X o E L Φ v:=(J8.pure h).det
theorem F5u:∀ (k i:Nat) {E R:cA},B1g P n ops k i E=some R→JI P n X ops (i+k) m K Q R L Φ→JI P n X ops i (k+m) K Q E L Φ
 | 0,i,E,R,h,k=>by simp_all[B1g]
 | c+1,i,E,R,h,k=>by
  unfold B1g at h
  split at h
  ·rename_i o d
   split at h
   ·rename_i E1 a
    have e:JI P n X ops (i+1) (c+m) K Q E1 L Φ:=F5u c (i+1) h (by rw [Nat.add_right_comm];exact k)
    rw [Nat.add_right_comm]
    unfold B7t at a
    split at a
    ·rename_i hr b
     split at a
     ·rename_i v f
      simp only [Option.some.injEq] at a;subst a
      exact E2k d hr b (.pure f) e
     ·cases a
    ·rename_i hr b
     simp only [Option.some.injEq] at a;subst a
     exact F1j d hr b e
    ·cases a
   ·cases h
  ·cases h
def JD (P:Program) (n:Nat) (X:Cx) (ops:Array Oper) (i m:Nat) (K:Act→World→Prop) (E:cA) (L:Own) (Φ:List Pers):Prop :=
 ∀ a,a.tmps.size=n→a.defers=X.marks→Has a E→wpQuiet P ops (cG X L Φ) (fun b=>∀ w',cG X L Φ w'→K b w') ((ops.toList.drop i).take m) a
theorem cG.drawn (h:cG X L Φ w) (k:Nat):cG X L Φ {w with drawn:=k} :=
 let ⟨p,hp⟩:=h;⟨p,⟨hp.facts,hp.sub,hp.le,hp.dom,hp.own,hp.may,⟨hp.kept.os,hp.kept.tape,hp.kept.output,hp.kept.size,hp.kept.block⟩,hp.res⟩⟩
theorem D9d {K:Act→Prop} (k:C w) (h:∀ a w',C w'→K a→K' a w')
  (q:o.quietIn (FW ρ) 0 P a C K):o.wpIn (FW ρ) 0 P a w K' Q':=by
 obtain ⟨v,y,l⟩:=q
 have b:=y w k
 unfold Oper.quietAtIn at b
 have i:C8y o.op=false:=by
  cases ho:o.op with
  | defer c =>
   exfalso
   have:(execOp a.eval o).run P w=Result.andThen ((resolve a.eval c o.type).run P w) fun d=>(pure (Next.defer d):Sem Next).run P:=by
    simp [execOp,ho]
    rfl
   rw [this] at b
   cases hr:(resolve a.eval c o.type).run P w with
   | ok d w'=>rw [hr] at b;exact b.elim
   | halt x w'=>rw [hr] at b;exact b.elim
  | _=>rfl
 refine ⟨fun _ _=>trivial,?_⟩
 rw [Oper.semAt_eq _ _ _ (fun c n=>by rw [n] at i;cases i)]
 generalize (execOp a.eval o).run P w=r at *
 cases r with
 | ok x w' =>
  cases x<;>simp only [Oper.quietUponIn] at b<;>simp only [Oper.uponIn]
  case value u =>
   obtain ⟨j,m⟩:=b
   rw [j,m]
   exact h _ _ k l
  case skip =>
   obtain ⟨j,m⟩:=b
   rw [j,← m]
   exact h _ _ k l
  case enter f args =>
   obtain ⟨j,p,n⟩:=b
   rw [j]
   exact ⟨p,n.mono fun e s ⟨t,g⟩=>by subst t;exact h _ _ g l⟩
 | halt x w'=>simp only [Oper.quietUponIn] at b
theorem D2x {K:Act→Prop} (c:C w) (h:∀ a w',C w'→K a→K' a w')
  (b:qOpIn (FW ρ) 0 P ops C i K a):wpOpIn (FW ρ) 0 P ops Q' i K' a w:=by
 unfold qOpIn at b
 unfold wpOpIn
 split
 ·grind
 ·rename_i o e
  simp only [e] at b
  obtain ⟨f,b⟩:=b
  split
  ·rename_i d;simp only [d,if_true] at b;grind[D9d]
  ·rename_i d;simp only [d] at b;exact ⟨f w c,h _ _ c b⟩
theorem C4j {md:Region.Mode} {R:Act→Prop} (e:∀ a w,C w→R a→Q' .normal a w):∀ (b:Nat) (c:Array Bool) (a:Act) (w:World),C w →
  wpAnyQIn (FW ρ) 0 P md ops C R b c a→wpAnyIn (FW ρ) 0 P md ops Q' b c a w
 | 0,_,_,_,hw,h=>⟨h.1,e _ _ hw h.2⟩
 | b+1,_,_,_,hw,h=>⟨fun j=>e _ _ hw (h.1 j),fun i g=>D2x hw (fun f w' d=>C4j e b _ f w' d) (h.2 i g)⟩
theorem D6e {R:Act→Prop}:∀ (l:List Oper) (a:Act),wpQuiet P ops C R l a→wpQuietIn (FW ρ) 0 P ops C R l a
 | [],a,h=>h
 | o::l,a,h=>by
  unfold wpQuiet at h
  unfold wpQuietIn
  refine ⟨fun _ _ _ _=>trivial,?_⟩
  split
  ·rename_i c
   rw [if_pos c] at h
   obtain ⟨v,g,e⟩:=h
   refine ⟨v,fun w d=>?_,D6e l _ e⟩
   have b:=g w d
   unfold Oper.quietAt at b
   unfold Oper.quietAtIn
   generalize (execOp a.eval o).run P w=r at *
   cases r with
   | ok x w' =>
    cases x with
    | value u=>exact b
    | skip=>exact b
    | enter f args=>exact ⟨b.1,B0x,B8h b.2⟩
    | _=>exact b.elim
   | halt x w'=>exact b.elim
  ·rename_i c
   rw [if_neg c] at h
   exact D6e l _ h
theorem E2v {Q:Exit→Act→World→Prop} (e:P.follows .mixedOrders=true) (d:Region.lexB .any ops=true) (f:C {w with drawn:=w.drawn+1})
  (h:wpQuiet P ops C (fun b=>∀ w',C w'→R b w') ops.toList a) (hR:∀ b w',R b w'→Q .normal b w'):(Code.region id ops true).wpIn (FW ρ) 0 P Q a w:=by
 simp only [Region.lexB,Bool.and_eq_true] at d
 refine wpIn_region_any e (C4j (R:=fun b=>∀ w',C w'→R b w') (fun _ w' c h=>hR _ _ (h w' c)) _ _ _ _ f ?_)
 have:=wpAnyQIn_lex (F:=FW ρ) (n:=0) (C:=C) (md:=.any) d.1 ops.toList 0 (Array.replicate ops.size false) a oom (by grind) (D6e _ _ h)
 omega
theorem G2k (m:Nat) (c:P.follows .mixedOrders=true) (d:Region.lexB .any ops=true) (e:ops.size=m) (h:JD P n X ops 0 m (Q .normal) E L Φ):J P n X (.region id ops true) Q E L Φ :=
 fun a w b=>E2v (C:=cG X L Φ) c d (b.world.drawn _) (by
  have:=h a b.size b.defers b.has
  grind[List.take_of_length_le]) (fun _ _ h=>h)
theorem E3b (h:JQ n X K E L Φ):JD P n X ops i 0 K E L Φ:=fun a e c d=>by
 rw [List.take_zero];exact wpQuiet_nil fun w' b=>h a w' ⟨e,c,d,b⟩
theorem Has.putO (h:Has a E) {d:Option Nat} (b:A1m n d=true) (c:a.tmps.size=n) (v:Value):Has (a.put d v) (cA.put E d v):=by
 cases d with
 | none=>exact h
 | some d=>exact h.put (by grind[A1m,Nat.blt_eq]) v
theorem E1s (f:ops[i]?=some o) (j:B3p ops o E=some true) (e:A1m n o.dst=true)
  (g:Det P X o E L Φ v) (h:JD P n X ops (i+1) m K (cA.put E o.dst v) L Φ):JD P n X ops i (m+1) K E L Φ:=by
 intro a d b c
 rw [B6y f,List.take_succ_cons]
 unfold wpQuiet
 rw [if_pos (A6d c j)]
 exact ⟨v,g a c,h _ (by rw [Act.put_size,d]) (by rw [Act.put_defers',b]) (c.putO e d v)⟩
theorem F0c (f:ops[i]?=some o) (g:B3p ops o E=some false) (e:A1m n o.dst=true)
  (h:JD P n X ops (i+1) m K (cA.put E o.dst undef) L Φ):JD P n X ops i (m+1) K E L Φ:=by
 intro a d b c
 rw [B6y f,List.take_succ_cons]
 unfold wpQuiet
 rw [if_neg (by grind[A6d])]
 exact h _ (by rw [Act.put_size,d]) (by rw [Act.put_defers',b]) (c.putO e d undef)
theorem F4b:∀ (k i:Nat) {E R:cA},B1g P n ops k i E=some R→JD P n X ops (i+k) m K R L Φ→JD P n X ops i (k+m) K E L Φ
 | 0,i,E,R,h,k=>by simp_all[B1g]
 | c+1,i,E,R,h,k=>by
  unfold B1g at h
  split at h
  ·rename_i o d
   split at h
   ·rename_i E1 a
    have e:JD P n X ops (i+1) (c+m) K E1 L Φ:=F4b c (i+1) h (by rw [Nat.add_right_comm];exact k)
    rw [Nat.add_right_comm]
    unfold B7t at a
    split at a
    ·rename_i hr b
     split at a
     ·rename_i v f
      simp only [Option.some.injEq] at a;subst a
      exact E1s d hr b (.pure f) e
     ·cases a
    ·rename_i hr b
     simp only [Option.some.injEq] at a;subst a
     exact F0c d hr b e
    ·cases a
   ·cases h
  ·cases h
theorem E6t (t:Nat) (g:Bool) (d:E.lookup t=some (.bool g)) (h:g=true→JD P n X ops i m K ((t,.bool true)::E) L Φ) (f:g=false→JD P n X ops i m K ((t,.bool false)::E) L Φ):JD P n X ops i m K E L Φ:=by
 intro a e b c
 cases hg:g with
 | true=>exact h hg a e b (c.lit d hg)
 | false=>exact f hg a e b (c.lit d hg)
theorem C3i {R T:Act→Prop}:∀ (b c:List Oper) (a:Act),wpQuiet P ops C R b a→(∀ a,R a→wpQuiet P ops C T c a)→wpQuiet P ops C T (b++c) a
 | [],_,a,h,hk=>hk a h
 | o::b,c,a,h,hk=>by
  simp only [List.cons_append,wpQuiet] at h ⊢
  have e:=fun a h=>C3i b c a h hk
  split
  ·rename_i d
   rw [if_pos d] at h
   obtain ⟨v,g,f⟩:=h
   exact ⟨v,g,e _ f⟩
  ·rename_i d
   rw [if_neg d] at h
   exact e _ h
theorem B6t (b:∀ w,¬ C w):∀ (l:List Oper) (a:Act),wpQuiet P ops C (fun e=>∀ w',C w'→R e w') l a
 | [],_=>fun w' c=>absurd c (b w')
 | o::l,a=>by
  unfold wpQuiet
  split
  ·exact ⟨undef,fun w d=>absurd d (b w),B6t b l _⟩
  ·exact B6t b l _
theorem F4e (k m:Nat) (E1:cA) (h:JD P n X ops i k (fun a _=>a.tmps.size=n∧a.defers=X.marks∧Has a E1) E L Φ)
  (e:JD P n X ops (i+k) m K E1 L Φ):JD P n X ops i (k+m) K E L Φ:=by
 intro a l c d
 by_cases hC:∃ w,cG X L Φ w
 ·obtain ⟨w,b⟩:=hC
  rw [List.take_add,List.drop_drop]
  exact C3i _ _ a (h a l c d) fun a hR=>by obtain ⟨g,j,f⟩:=hR w b;exact e a g j f
 ·exact B6t (fun w b=>hC ⟨w,b⟩) _ _
def TypeDesc.row:TypeDesc→Bool
 | .struct _ | .array _ _=>true
 | _=>false
def TyB (P:Program) (T sz:Nat) (agg:Bool):Bool :=
 match P.info? T,P.underlying T with
 | some i,some d=>i.size == sz&&(TypeDesc.row d == agg)
 | _,_=>false
structure Ty (P:Program) (T sz:Nat) (agg:Bool):Prop where
 ok:TyB P T sz agg=true
theorem Ty.size {agg:Bool} (h:Ty P T sz agg) (w:World):(sizeOf T).run P w=.ok sz w:=by
 have:=h.ok
 unfold TyB at this
 split at this
 all_goals simp_all[A9r]
theorem Ty.agg {agg:Bool} (h:Ty P T sz agg) (w:World):(isAgg T).run P w=.ok agg w:=by
 have:=h.ok
 unfold TyB at this
 split at this
 ·rename_i i d b a
  simp only [Bool.and_eq_true,beq_iff_eq] at this
  rw [C5l a,← this.2]
  cases d<;>rfl
 grind
theorem A3j (b o j:Nat):(⟨b,o,none⟩:Addr).add j=⟨b,o+j,none⟩:=by simp[Addr.add]
def B0p (h:Hp) (a:Addr) (us:List Value):Prop:=us=[]∨(a.spot=none∧∃ c T b,h a.block=some (.cells c T b)∧∀ j v,us[j]?=some v→c[a.off+j]?=some v)
def at_ (a:Addr) (us:List Value):Pers:=⟨fun h=>B0p h a us,fun d b=>match b with | .inl e=>.inl e | .inr ⟨h0,c,T,fr,h1,h2⟩=>.inr ⟨h0,c,T,fr,d _ _ h1,h2⟩⟩
theorem B0p.cell {h:Hp} {a:Addr} (f:B0p h a us) (e:h.sub w) {j:Nat} (d:us[j]?=some v):w.cell? (a.add j)=some v:=by
 obtain ⟨b,o,g⟩:=a
 obtain rfl | ⟨h0,c,T,fr,h1,h2⟩:=f
 ·simp at d
 simp only at h0 h1 h2
 subst h0
 rw [A3j]
 simp [World.cell?,e _ _ h1,h2 j v d]
theorem C1u (c:Ty P T sz true) {a:Addr} (e:us.length=sz) (d:∀ j v,us[j]?=some v→w.cell? (a.add j)=some v) :
  (Instr.loadAt T (.pointer (some a))).run P w=.ok (.agg us.toArray) w:=by
 have b:=run_loadCells_list (P:=P) w a us d
 rw [e] at b
 simp [Instr.loadAt,Instr.sureAddr,loadVar,c.agg,c.size,b]
theorem C1s (c:Ty P T 1 false) {a:Addr} (b:w.cell? (a.add 0)=some v) :
  (Instr.loadAt T (.pointer (some a))).run P w=.ok v w:=by
 have:w.cell? a=some v:=by grind[Addr.add]
 simp [Instr.loadAt,Instr.sureAddr,loadVar,c.agg,this]
abbrev bx (b:Nat) (cs:List Value) (T:Nat):Nat×Obj:=(b,.cells cs.toArray T (0,0))
theorem D5z (h:StH X L Φ p w) {e:Nat×Obj} (a:L[i]?=some e):w.heap[e.1]?=some e.2:=(h.own.1 e (List.mem_of_getElem? a)).1
theorem D0b (h:StH X L Φ p w) (a:L[i]?=some (bx b cs T)) (k:Nat):w.cell? ⟨b,k,none⟩=cs[k]?:=by grind[D5z,World.cell?]
theorem G6 (k:Ty P T sz true) (d:o.op=.load T x) (f:ev E x=some (.pointer (some ⟨b,off,none⟩))) (i:Nat) (hL:L[i]?=some (bx b cs TT):=by exact Z)
  (e:(cs.drop off).take sz=us:=by exact Z) (g:us.length=sz:=by exact Z):J8 P X o E L Φ (.agg us.toArray):=.of_run fun l w h ⟨p,c⟩=>by
 have:(Instr.loadAt T (.pointer (some ⟨b,off,none⟩))).run P w=.ok (.agg us.toArray) w:=C1u k g fun j v a=>by
  rw [A3j,D0b c hL,← a,← e,List.getElem?_take,if_pos,List.getElem?_drop]
  grind
 simp [execOp,d,D5 h f,this]
theorem B8 (g:Ty P T 1 false) (c:o.op=.load T x) (e:ev E x=some (.pointer (some ⟨b,off,none⟩))) (i:Nat) (hL:L[i]?=some (bx b cs TT):=by exact Z)
  (d:cs[off]?=some v:=by exact Z):J8 P X o E L Φ v:=.of_run fun h w f ⟨p,a⟩=>by
 have:(Instr.loadAt T (.pointer (some ⟨b,off,none⟩))).run P w=.ok v w:=C1s g (by grind[A3j,D0b])
 simp [execOp,c,D5 f e,this]
end
end
section
variable {T b:Nat} {cs:List Value} {i:Nat} {o u:Obj} {v:Value} {w w':World} {x:Operand} {α:Type}
section
variable {P:Program} {n:Nat} {X:Cx} {K:Act→World→Prop} {Q:Exit→Act→World→Prop} {E E':cA} {L L':Own} {Φ Φ':List Pers}
theorem B7y (w:World) (o:Obj) (k:Nat):(w.alloc o).heap[k]?=if k=w.heap.size then some o else w.heap[k]?:=by
 show (w.heap.push o)[k]?=_
 grind
theorem Hp.lt {p:Hp} (h:p.sub w) (e:p b=some o):b<w.heap.size:=(Array.getElem?_eq_some_iff.1 (h b o e)).1
theorem F2g {p:Hp} (h:p.sub w) (o:Obj):p.sub (w.alloc o):=fun b u e=>by
 rw [B7y,if_neg (Nat.ne_of_lt (Hp.lt h e))];exact h b u e
theorem A5x.lt {p:Hp} (h:A5x L p w) {e:Nat×Obj} (a:e ∈ L):e.1<w.heap.size:=(Array.getElem?_eq_some_iff.1 (h.1 e a).1).1
theorem A5x.alloc {p:Hp} (h:A5x L p w) (c:p.sub w) (o:Obj):A5x ((w.heap.size,o)::L) p (w.alloc o):=by
 constructor
 ·intro e a
  rcases List.mem_cons.1 a with rfl | a
  ·refine ⟨by rw [B7y,if_pos rfl],?_⟩
   cases hp:p w.heap.size with
   | none=>rfl
   | some u=>exact absurd (Hp.lt c hp) (Nat.lt_irrefl _)
  ·have:=h.1 e a
   exact ⟨by rw [B7y,if_neg (Nat.ne_of_lt (h.lt a))];grind,this.2⟩
 ·simp only [List.map_cons,List.nodup_cons]
  refine ⟨fun b=>?_,h.2⟩
  obtain ⟨e,a,d⟩:=List.mem_map.1 b
  have:=h.lt a
  omega
theorem KeptBut.alloc {M:List Nat} {a:World} (h:KeptBut M a w) (o:Obj):KeptBut M a (w.alloc o) :=
 ⟨h.os,h.tape,h.output,by have:=h.size;simp;omega,fun k c b=>by rw [B7y,if_neg (by have:=h.size;omega)];exact h.block k c b⟩
theorem oz_ {p:Prop} (h:p:=by (simp +zetaDelta only [List.length_append,List.length_cons,List.length_nil,List.length_take,List.length_drop,List.length_set] at *;omega)):p:=h
theorem opx {p:Prop} (h:p:=by first|(omega)|exact oz_):p:=h
theorem cG.alloc (h:cG X L Φ w) (o:Obj):cG X ((w.heap.size,o)::L) Φ (w.alloc o) :=
 let ⟨p,hp⟩:=h
 ⟨p,⟨hp.facts,F2g hp.sub o,hp.le,hp.dom,hp.own.alloc hp.sub o,fun e a=>by
  rcases List.mem_cons.1 a with rfl | a
  ·exact .inr hp.kept.size
  ·exact hp.may e a,hp.kept.alloc o,fun d c=>by
  obtain ⟨b,g,j,i⟩:=hp.res d c
  have f:=(Array.getElem?_eq_some_iff.1 b).1
  refine ⟨by rw [B7y,if_neg opx];exact b,g,fun e a=>?_,i⟩
  grind⟩⟩
def blk (b:Nat) (o:Obj):Pers:=⟨fun h=>h b=some o,fun a e=>a _ _ e⟩
theorem A2s {o:Oper} (c:o.op=.box T x) (g:ev E x=some v) (f:v.cells=cs.toArray) :
  Tri P n X o E L Φ Nat (fun b=>.pointer (some ⟨b,0,none⟩)) (fun b=>bx b cs T::L) (fun _=>Φ):=by
 intro a w K Q d e
 have hr:(execOp a.eval o).run P w=.ok (.value (.pointer (some ⟨w.heap.size,0,none⟩))) (w.alloc (.cells cs.toArray T (0,0))):=by
  simp [execOp,c,D5 d.has g,Instr.box,newVar,newRow,f]
 refine B0w (by rw [c];rfl) ?_
 unfold Oper.wp
 rw [hr]
 exact e w.heap.size _ (d.world.alloc _)
structure Zero (P:Program) (T:Nat) (cs:List Value):Prop where
 ok:((P.info? T).bind (·.zero)).map (·.cells)=some cs.toArray
theorem Zero.run (h:Zero P T cs) (w:World):∃ v,(zeroValue T).run P w=.ok v w∧v.cells=cs.toArray:=by
 obtain ⟨v,a,c⟩:=Option.map_eq_some_iff.1 h.ok
 obtain ⟨i,b,d⟩:=Option.bind_eq_some_iff.1 a
 simp_all[zeroValue,B5m]
theorem A5p {o:Oper} (h:Zero P T cs) (c:o.op=.alloc T) :
  Tri P n X o E L Φ Nat (fun b=>.pointer (some ⟨b,0,none⟩)) (fun b=>bx b cs T::L) (fun _=>Φ):=by
 intro a w K Q f d
 obtain ⟨v,e,g⟩:=h.run w
 have hr:(execOp a.eval o).run P w=.ok (.value (.pointer (some ⟨w.heap.size,0,none⟩))) (w.alloc (.cells cs.toArray T (0,0))):=by
  simp_all[execOp,Instr.alloc,newVar,newRow]
 refine B0w (by rw [c];rfl) ?_
 unfold Oper.wp
 rw [hr]
 exact d w.heap.size _ (f.world.alloc _)
theorem D6v (d:L[i]?=some (b,o)):(L.set i (b,u)).map Prod.fst=L.map Prod.fst:=by
 apply List.ext_getElem?
 grind
theorem C7n (f:(L.map Prod.fst).Nodup) {k:Nat} (e:L[i]?=some (b,o)) (c:L[k]?=some (b,u)):i=k:=by
 have a:(L.map Prod.fst)[i]?=some b:=by simp [e]
 have d:(L.map Prod.fst)[k]?=some b:=by simp [c]
 grind[List.getElem?_inj]
theorem A5x.set {p:Hp} (h:A5x L p w) (d:L[i]?=some (b,o)) (hb:w'.heap[b]?=some u) (c:∀ k,k≠b→w'.heap[k]?=w.heap[k]?):A5x (L.set i (b,u)) p w':=by
 constructor
 ·intro e g
  obtain ⟨k,a⟩:=List.mem_iff_getElem?.1 g
  rw [List.getElem?_set] at a
  by_cases hik:i=k
  ·subst hik
   have:=(List.getElem?_eq_some_iff.1 d).1
   simp [this] at a
   subst a
   exact ⟨hb,(h.1 _ (List.mem_of_getElem? d)).2⟩
  ·rw [if_neg hik] at a
   obtain ⟨j,o'⟩:=e
   have f:j≠b:=fun e=>hik (C7n h.2 d (e▸a))
   have:=h.1 _ (List.mem_of_getElem? a)
   grind
 ·rw [D6v d];exact h.2
theorem cG.set (h:cG X L Φ w) (m:L[i]?=some (b,o)) (hb:w'.heap[b]?=some u) (a:∀ k,k≠b→w'.heap[k]?=w.heap[k]?)
  (r:w'.os=w.os) (z:w'.tape=w.tape) (j:w'.output=w.output) (v:w'.heap.size=w.heap.size):cG X (L.set i (b,u)) Φ w' :=
 let ⟨p,hp⟩:=h
 have g:=List.mem_of_getElem? m
 ⟨p,⟨hp.facts,fun k o' e=>by
   have:k≠b:=fun t=>by subst t;rw [(hp.own.1 _ g).2] at e;cases e
   rw [a _ this];exact hp.sub k o' e,hp.le,hp.dom,hp.own.set m hb a,fun e s=>by
   obtain ⟨k,c⟩:=List.mem_iff_getElem?.1 s
   rw [List.getElem?_set] at c
   by_cases hik:i=k
   ·subst hik
    have:=(List.getElem?_eq_some_iff.1 m).1
    simp [this] at c
    subst c
    exact hp.may (b,o) g
   ·rw [if_neg hik] at c
    exact hp.may _ (List.mem_of_getElem? c),
  ⟨r.trans hp.kept.os,z.trans hp.kept.tape,j.trans hp.kept.output,by rw [v];exact hp.kept.size,fun k c f=>by
   have n:k≠b:=by
    rintro rfl
    rcases hp.may (k,o) g with l | l
    all_goals grind
   rw [a k n];exact hp.kept.block k c f⟩,fun d x=>by
   obtain ⟨l,y,q,h4⟩:=hp.res d x
   grind⟩⟩
def A6k (cs us:List Value) (off:Nat):List Value:=cs.take off++us++cs.drop (off+us.length)
theorem O9 {o:Oper} {sz off TT:Nat} {agg:Bool} {y:Operand} {us cs':List Value} (r:Ty P T sz agg) (m:o.op=.store T x y) (z:ev E x=some (.pointer (some ⟨b,off,none⟩))) (u:ev E y=some v)
  (i:Nat) (hL:L[i]?=some (bx b cs TT):=by exact Z) (j:v.cells=us.toArray:=by exact Z) (q:us.length=sz:=by exact Z) (hb:us.all (·.oneCell')=true:=by exact Z) (hc:A6k cs us off=cs':=by exact Z) (t:Nat.ble (off+sz) cs.length=true:=by exact Z) :
  Tri P n X o E L Φ Unit (fun _=>undef) (fun _=>L.set i (bx b cs' TT)) (fun _=>Φ):=by
 intro a w K Q d g
 obtain ⟨p,s⟩:=d.world
 have l:w.heap[b]?=some (.cells cs.toArray TT (0,0)):=D5z s hL
 have h:off+us.length≤cs.length:=by simp_all
 have f:=run_storeCells_at P b off TT us 0 cs.toArray w l (by omega) (fun v j=>by grind)
 have hr:(execOp a.eval o).run P w=.ok .skip (w.setRow b cs'.toArray):=by
  have e:(storeVar T ⟨b,off,none⟩ v).run P w=.ok () (w.setRow b cs'.toArray):=by
   have c:(storeCells ⟨b,off,none⟩ us).run P w=.ok () (w.setRow b cs'.toArray):=by grind[A6k]
   simp only [storeVar,Sem.run_bind,r.size,Result.andThen_ok,j,List.size_toArray,q,ne_eq,not_true_eq_false,if_false,c]
  simp [execOp,m,D5 d.has z,D5 d.has u,Instr.storeAt,Instr.sureAddr,e]
 refine B0w (by rw [m];rfl) ?_
 unfold Oper.wp
 rw [hr]
 refine g () _ (d.world.set hL (setRow_heap w b _ _ TT (0,0) l) (fun k g=>setRow_other w b k _ g) Z Z Z oom)
def F7b {α:Type}:List Bool→List α→List α
 | true::m,x::xs=>x::F7b m xs
 | false::m,_::xs=>F7b m xs
 | _,_=>[]
theorem C9a:∀ (m:List Bool) (xs:List α),(F7b m xs).Sublist xs
 | true::m,x::xs=>(C9a m xs).cons_cons x
 | false::m,x::xs=>(C9a m xs).cons x
 | [],_=>List.nil_sublist _
 | true::_,[]=>List.nil_sublist _
 | false::_,[]=>List.nil_sublist _
theorem mk {L L':List α} (m:List Bool) (h:F7b m L=L'):L'.Sublist L:=h▸C9a m L
theorem A5x.sub {p:Hp} (h:A5x L p w) (a:L'.Sublist L):A5x L' p w:=⟨fun e b=>h.1 e (a.subset b),(a.map Prod.fst).nodup h.2⟩
theorem cG.sub (h:cG X L Φ w) (b:L'.Sublist L):cG X L' Φ w :=
 let ⟨p,hp⟩:=h;⟨p,⟨hp.facts,hp.sub,hp.le,hp.dom,hp.own.sub b,fun e a=>hp.may e (b.subset a),hp.kept,fun d c=>let ⟨h1,h2,h3,h4⟩:=hp.res d c;⟨h1,h2,fun e a=>h3 e (b.subset a),h4⟩⟩⟩
theorem F7k {xs ys:List α} {is:List Nat} (h:is.mapM (xs[·]?)=some ys):∀ y ∈ ys,y ∈ xs:=by
 induction is generalizing ys with
 | nil=>grind
 | cons i is ih =>
  simp only [List.mapM_cons,Option.bind_eq_bind,Option.bind_eq_some_iff] at h
  grind
def A7 (Φ Φ':List Pers):Prop:=∀ p:Hp,(∀ q ∈ Φ,q.p p)→∀ q ∈ Φ',q.p p
theorem A7.pick (is:List Nat) (h:is.mapM (Φ[·]?)=some Φ'):A7 Φ Φ':=fun _ a q b=>a q (F7k h q b)
theorem A7.nil:A7 Φ []:=fun _ _ _ h=>by cases h
theorem bX:A7 Φ []:=A7.nil
theorem A7.refl:A7 Φ Φ:=fun _ h=>h
theorem A7.cons {q:Pers} (c:∀ p:Hp,(∀ q ∈ Φ,q.p p)→q.p p) (h:A7 Φ Φ'):A7 Φ (q::Φ'):=fun p b d a=>by
 rcases List.mem_cons.1 a with rfl | a
 ·grind
 ·exact h p b d a
theorem cG.foll (h:cG X L Φ w) (a:A7 Φ Φ'):cG X L Φ' w:=let ⟨p,hp⟩:=h;⟨p,⟨a p hp.facts,hp.sub,hp.le,hp.dom,hp.own,hp.may,hp.kept,hp.res⟩⟩
theorem cG.freeze (h:cG X L Φ w) (m:L[i]?=some (b,o)):cG X (L.eraseIdx i) (blk b o::Φ) w:=by
 obtain ⟨p,a⟩:=h
 have n:=List.mem_of_getElem? m
 have hb:=a.own.1 _ n
 have j:∀ e ∈ L.eraseIdx i,e.1≠b:=by
  intro e f g
  obtain ⟨k,c⟩:=List.mem_iff_getElem?.1 f
  rw [List.getElem?_eraseIdx] at c
  obtain ⟨x,v⟩:=e
  simp only at g
  subst g
  split at c
  ·have:=C7n a.own.2 m c;omega
  ·have:=C7n a.own.2 m c;omega
 refine ⟨fun k=>if k=b then some o else p k,⟨?_,?_,?_,?_,?_,?_,a.kept,fun d t=>let ⟨h1,h2,h3,h4⟩:=a.res d t;⟨h1,by grind,fun e f=>h3 e ((List.eraseIdx_sublist _ _).subset f),h4⟩⟩⟩
 ·have s:p.le (fun k=>if k=b then some o else p k):=fun k u e=>by
   grind
  intro q r
  rcases List.mem_cons.1 r with rfl | r
  ·simp [blk]
  ·exact q.mono s (a.facts q r)
 ·intro k u e
  by_cases c:k=b
  ·grind
  ·simp only [if_neg c] at e;exact a.sub k u e
 ·intro k u e
  have:=a.le k u e
  grind
 ·intro k c
  by_cases hkb:k=b
  ·subst hkb;exact .inr (a.may _ n)
  ·simp only [if_neg hkb] at c;exact a.dom k c
 ·exact ⟨fun e f=>⟨((a.own.sub (List.eraseIdx_sublist _ _)).1 e f).1,by simp only [if_neg (j e f)];exact (a.own.1 e ((List.eraseIdx_sublist _ _).subset f)).2⟩,(a.own.sub (List.eraseIdx_sublist _ _)).2⟩
 ·exact fun e f=>a.may e ((List.eraseIdx_sublist _ _).subset f)
end
end
section
variable {L0:Own} {α:Type} {L1:α→Own} {L2:Own} {T TT:Nat} {a:Act} {args:List Value} {b:Func} {c:Call} {cap:Array Value} {cs:List Value} {f:Func} {first:Array Value} {k:FuncId} {o:Oper} {off:Nat} {r s:ResultVar} {t:Nat} {u v:Value} {val:α→Value} {vs:List Value} {w w':World} {Φ0:List Pers} {Φ1:α→List Pers}
structure HasBody (P:Program) (f:FuncId):Prop where
 ok : ((P.funcs[f]?).map fun fn => !fn.body.isNone && !(fn.name == "runtime.NumGoroutine")) = some true
abbrev cx (w:World) (h:Hp) (M:List Nat):Cx:=⟨w,h,M,none,[]⟩
def cM (P:Program) (f:FuncId) (args:List Value) (L0:Own) (Φ0:List Pers) (α:Type) (val:α→Value) (L1:α→Own) (Φ1:α→List Pers):Prop :=
 HasBody P f∧∀ (w:World) (h:Hp),(∀ q ∈ Φ0,q.p h)→h.sub w→A5x L0 h w →
  Calls P f args.toArray w fun e w'=>∃ x,e=.returned (val x)∧cG (cx w h (L0.map Prod.fst)) (L1 x) (Φ1 x) w'
abbrev J7 (P:Program) (f:FuncId) (args:List Value) (Φ0:List Pers) (v:Value):Prop:=cM P f args [] Φ0 Unit (fun _=>v) (fun _=>[]) (fun _=>[])
section
variable {P:Program} {n:Nat} {X:Cx} {K:Act→World→Prop} {Q:Exit→Act→World→Prop} {E E':cA} {L L':Own} {Φ Φ':List Pers}
def Res (P:Program) (n:Nat) (X:Cx) (b:Func) (E:cA) (L:Own) (Φ:List Pers) (v:Value):Prop:=∀ a w,St n X E L Φ a w→(results b a.tmps).run P w=.ok v w
def D7n (a:Array Value):ResultVar→Sem Value
 | .tmp t=>pure (a.getD t undef)
 | .cell t T=>do loadVar T (← asAddr (a.getD t undef))
theorem B8k (b:Func) (a:Array Value):results b a=(do
  let vs ← b.results.mapM (D7n a)
  pure (if h:vs.size=1 then vs[0] else .tuple vs)):=by
 rfl
def C9d (P:Program) (n:Nat) (X:Cx) (r:ResultVar) (E:cA) (L:Own) (Φ:List Pers) (v:Value):Prop:=∀ a w,St n X E L Φ a w→(D7n a.tmps r).run P w=.ok v w
theorem A6 (h:E.lookup t=some v:=by exact Z):C9d P n X (.tmp t) E L Φ v:=fun a w b=>by
 have:=b.has _ _ h
 simp [D7n,this]
theorem Has.getD (b:Has a E) (h:E.lookup t=some v):a.tmps.getD t undef=v:=by
 have:=b _ _ h
 simp [this]
theorem E8 {sz b:Nat} {us:List Value} (l:Ty P T sz true) (h:E.lookup t=some (.pointer (some ⟨b,off,none⟩))) (i:Nat) (hL:L[i]?=some (bx b cs TT):=by exact Z) (g:(cs.drop off).take sz=us:=by exact Z) (k:us.length=sz:=by exact Z) :
  C9d P n X (.cell t T) E L Φ (.agg us.toArray):=fun a w d=>by
 obtain ⟨p,f⟩:=d.world
 have hr:(Instr.loadAt T (.pointer (some ⟨b,off,none⟩))).run P w=.ok (.agg us.toArray) w:=C1u l k fun j v e=>by
  rw [A3j,D0b f hL,← e,← g,List.getElem?_take,if_pos,List.getElem?_drop]
  grind
 have c:(loadVar T ⟨b,off,none⟩).run P w=.ok (.agg us.toArray) w:=by grind[Instr.loadAt,Instr.sureAddr]
 simp only [D7n,d.has.getD h,asAddr,Sem.run_bind,Sem.run_pure,Result.andThen_ok,c]
theorem E8a {b:Nat} (g:Ty P T 1 false) (h:E.lookup t=some (.pointer (some ⟨b,off,none⟩))) (i:Nat) (hL:L[i]?=some (bx b cs TT)) (f:cs[off]?=some v) :
  C9d P n X (.cell t T) E L Φ v:=fun a w d=>by
 obtain ⟨p,e⟩:=d.world
 have hr:(Instr.loadAt T (.pointer (some ⟨b,off,none⟩))).run P w=.ok v w:=C1s g (by grind[A3j,D0b])
 have c:(loadVar T ⟨b,off,none⟩).run P w=.ok v w:=by grind[Instr.loadAt,Instr.sureAddr]
 simp only [D7n,d.has.getD h,asAddr,Sem.run_bind,Sem.run_pure,Result.andThen_ok,c]
theorem B3x (c:b.results=#[]):Res P n X b E L Φ (.tuple #[]):=fun a w _=>by simp [B8k,c]
theorem I9 (c:b.results=#[r]) (h:C9d P n X r E L Φ v):Res P n X b E L Φ v:=fun a w d=>by
 simp [B8k,c,h a w d]
theorem Y4 (d:b.results=#[r,s]) (h:C9d P n X r E L Φ v) (k:C9d P n X s E L Φ u):Res P n X b E L Φ (.tuple #[v,u]):=fun a w c=>by
 simp [B8k,d,h a w c,k a w c]
theorem E6f {c:Func} {t:ResultVar} {x:Value} (d:c.results=#[r,s,t]) (h:C9d P n X r E L Φ v) (k:C9d P n X s E L Φ u) (l:C9d P n X t E L Φ x):Res P n X c E L Φ (.tuple #[v,u,x]):=fun a w b=>by
 simp [B8k,d,h a w b,k a w b,l a w b]
def E2z (P:Program) (X:Cx) (a:Func) (α:Type) (val:α→Value) (L1:α→Own) (Φ1:α→List Pers):Exit→Act→World→Prop :=
 bodyPostM (FW none) 0 P a fun e w'=>∃ x,e=.returned (val x)∧cG X (L1 x) (Φ1 x) w'
theorem E4s {f:FuncId} {g:Func} {c:Code}
  (o : P.funcs[f]? = some g) (hb : g.body = some c) (j : (g.name == "runtime.NumGoroutine") = false) (hn : g.ntmps = n) (l : Nat.ble args.length n = true) (E0 : cA) (hE : R0 ((List.range args.length).zip args) E0)
  (h:∀ X:Cx,X.M=L0.map Prod.fst→X.rho=none→X.D=[]→J P n X c (E2z P X g α val L1 Φ1) E0 L0 Φ0):cM P f args L0 Φ0 α val L1 Φ1:=by
 refine ⟨⟨by grind⟩,fun w p u z x=>?_⟩
 have q:args.length≤n:=Nat.le_of_ble_eq_true l
 refine (callsIn_wide (n:=0)).1 (callsIn_of_wp_marks (F:=Fence.wide) o hb trivial (h (cx w p (L0.map Prod.fst)) Z Z Z _ w ⟨?_,rfl,?_,p,⟨u,z,Hp.le_refl p,fun b hb=>.inl hb,x,fun e he=>.inl (List.mem_map_of_mem he),KeptBut.refl _ w,fun d s=>by cases s⟩⟩))
 ·simp [hn];omega
 ·have m:Has {tmps:=args.toArray++Array.replicate (g.ntmps - args.toArray.size) undef,defers:=[]} ((List.range args.length).zip args):=by
   intro t v e
   have hm:∀ (xs:List Value) (k:Nat),((List.range' k xs.length).zip xs).lookup t=some v→k≤t∧xs[t - k]?=some v:=by
    intro xs
    induction xs with
    | nil=>intro k a;simp at a
    | cons y ys ih =>
     intro k a
     rw [List.length_cons,List.range'_succ,List.zip_cons_cons] at a
     by_cases ht:t=k
     ·subst ht;simp [List.lookup] at a;simp [a]
     ·have:(t == k)=false:=by simpa using ht
      simp only [List.lookup,this] at a
      obtain ⟨m,i⟩:=ih (k+1) a
      refine ⟨by omega,?_⟩
      rw [show t - k=(t - (k+1))+1 by omega,List.getElem?_cons_succ]
      exact i
   rw [List.range_eq_range'] at e
   obtain ⟨_,i⟩:=hm args 0 e
   have r:args[t]?=some v:=by simpa using i
   have:=(List.getElem?_eq_some_iff.1 r).1
   rw [Array.getElem?_append_left (by simpa using this)]
   simpa using r
  exact m.weaken (Q2 hE)
def Cx.wd (X:Cx) (ds:List (Nat×Obj)):Cx:=⟨X.w0,X.h0,X.M,X.rho,ds⟩
theorem cG.take {d:Nat×Obj} {ds:List (Nat×Obj)} (m:d.1 ∉ ds.map Prod.fst) (o:Obj) (h:cG (X.wd (d::ds)) L Φ w):cG (X.wd ds) L Φ (w.putObj d.1 o):=by
 obtain ⟨p,a⟩:=h
 obtain ⟨t,q,r,c⟩:=a.res d jU
 refine ⟨p,⟨a.facts,fun k o e=>?_,a.le,a.dom,⟨fun e g=>⟨?_,(a.own.1 e g).2⟩,a.own.2⟩,a.may,⟨a.kept.os,a.kept.tape,a.kept.output,by rw [World.putObj_size];exact a.kept.size,fun k l j=>?_⟩,fun i b=>?_⟩⟩
 ·have:k≠d.1:=fun f=>by subst f;rw [q] at e;cases e
  rw [World.putObj_heap_other this];exact a.sub k o e
 ·rw [World.putObj_heap_other (r e g)];exact (a.own.1 e g).1
 ·have:k≠d.1:=fun f=>by
   subst f
   rcases c with c | c
   ·have:X.w0.heap.size≤d.1:=c
    have:d.1<X.w0.heap.size:=l
    omega
   ·exact j c
  rw [World.putObj_heap_other this];exact a.kept.block k l j
 ·have:i.1≠d.1:=fun f=>m (f▸List.mem_map_of_mem b)
  obtain ⟨n,s⟩:=a.res i (List.mem_cons_of_mem _ b)
  exact ⟨by rw [World.putObj_heap_other this];exact n,s⟩
theorem B6l {a:Array Value} {R:Ending→World→Prop}:∀ (ds:List (Nat×Obj)),(ds.map Prod.fst).Nodup→(∀ d ∈ ds,d.2=.deferred (some []))→∀ w,cG (X.wd ds) L Φ w →
  (∀ w',cG (X.wd []) L Φ w'→∃ v,(results f a).run P w'=.ok v w'∧R (.returned v) w')→LeavesInM (FW none) 0 P f a R (ds.map (C3c ·.1)) .returning w
 | [],_,_,w,hw,k=>k w hw
 | d::ds,hn,ho,w,hw,k=>by
  rw [List.map_cons] at hn
  obtain ⟨i,h⟩:=List.nodup_cons.1 hn
  obtain ⟨p,c⟩:=hw
  have b:=(c.res d jU).1
  rw [ho d jU] at b
  exact ⟨by simp,.inl ⟨d.1,_,rfl,run_takeDeferred b,B6l ds h (fun e g=>ho e (List.mem_cons_of_mem _ g)) _ (cG.take i _ ⟨p,c⟩) k⟩⟩
theorem E5m {X':Cx} {j:Func} (hX:X'=X.wd X'.D) (c:X=X.wd []) (b:X.rho=none) (g:(X'.D.map Prod.fst).Nodup∧∀ d ∈ X'.D,d.2=.deferred (some [])) (hr:Res P n X j E L Φ v) (x:α) (l:val x=v) (hL:List.Sublist (L1 x) L) (hΦ:A7 Φ (Φ1 x))
  (i:St n X' E L Φ a w):LeavesInM (FW none) 0 P j a.tmps (fun e w'=>∃ x,e=.returned (val x)∧cG X (L1 x) (Φ1 x) w') a.defers .returning w:=by
 have k:X'.marks=X'.D.map (C3c ·.1):=by rw [hX];unfold Cx.marks Cx.wd;simp only [b]
 rw [i.defers,k]
 refine B6l (X:=X) (L:=L) (Φ:=Φ) X'.D g.1 g.2 w (hX▸i.world) fun w' f=>⟨v,?_,x,by rw [l],?_⟩
 ·rw [c] at hr
  exact hr {a with defers:=[]} w' ⟨i.size,by unfold Cx.marks Cx.wd;simp only [b];rfl,i.has,f⟩
 ·rw [c];exact (f.sub hL).foll hΦ
theorem B7w {X':Cx} (hX:X'=X.wd X'.D) (b:X.rho=none∧X.D=[]) (c:(X'.D.map Prod.fst).Nodup∧∀ d ∈ X'.D,d.2=.deferred (some [])) (hr:Res P n X f E L Φ v) (x:α) (j:val x=v) (hL:List.Sublist (L1 x) L) (hΦ:A7 Φ (Φ1 x)) :
  JQ n X' (E2z P X f α val L1 Φ1 .ret) E L Φ:=fun a w i=>E5m hX (by obtain ⟨k,l,M,r,D⟩:=X;obtain ⟨g,e⟩:=b;simp only at g e;subst g e;rfl) b.1 c hr x j hL hΦ i
theorem E7i {X':Cx} (hX:X'=X.wd X'.D) (b:X.rho=none∧X.D=[]) (c:(X'.D.map Prod.fst).Nodup∧∀ d ∈ X'.D,d.2=.deferred (some [])) (hr:Res P n X f E L Φ v) (x:α) (j:val x=v) (hL:List.Sublist (L1 x) L) (hΦ:A7 Φ (Φ1 x)) :
  JQ n X' (E2z P X f α val L1 Φ1 .normal) E L Φ:=fun a w i=>E5m hX (by obtain ⟨k,l,M,r,D⟩:=X;obtain ⟨g,e⟩:=b;simp only at g e;subst g e;rfl) b.1 c hr x j hL hΦ i
theorem A3l {f:FuncId} (h:HasBody P f) (args:Array Value) (w:World):(callFunc f args).run P w=.ok (.enter f args) w:=by
 have:=h.ok
 obtain ⟨d,a,hb⟩:=Option.map_eq_some_iff.1 this
 simp only [Bool.and_eq_true,Bool.not_eq_true'] at hb
 obtain ⟨c,b⟩:=hb
 simp only [callFunc,Sem.run_bind,run_program,Result.andThen_ok,a,b,c,Bool.false_eq_true,if_false]
 rfl
theorem D6j {e:Operand} (d:Has a E) (g:o.op=.call c) (h:c.callee=.value e) (f:ev E e=some (.func (.func k) first cap))
  (b:c.args.toList.mapM (ev E)=some vs) (hb:HasBody P k) (w:World):(execOp a.eval o).run P w=.ok (.enter k (first++vs.toArray++cap)) w:=by
 simp [execOp,g,resolve,h,D5 d f,Deferred.ofValue,B5l d b,invoke,A3l hb]
theorem KeptBut.of_call {M:List Nat} {M0:List Nat} {a:World} (h:KeptBut M a w) (k:KeptBut M0 w w') (g:∀ b ∈ M0,b ∈ M∨a.heap.size≤b):KeptBut M a w' :=
 ⟨k.os.trans h.os,k.tape.trans h.tape,k.output.trans h.output,Nat.le_trans h.size k.size,fun i e d=>by
  rw [k.block i (Nat.lt_of_lt_of_le e h.size) (fun c=>by rcases g i c with f | f;exact d f;omega)]
  exact h.block i e d⟩
theorem cG.call {L1:Own} {Φ1:List Pers} {p:Hp} (m:StH X L Φ p w) (hL:L.Perm (L0++L2)) (hc:cG (cx w p (L0.map Prod.fst)) L1 Φ1 w'):cG X (L1++L2) (Φ1++Φ) w':=by
 obtain ⟨p',f⟩:=hc
 have v:p.le p':=f.le
 have h:∀ e ∈ L0++L2,e.1 ∈ X.M∨X.w0.heap.size≤e.1:=fun e a=>m.may e (hL.symm.subset a)
 have i:A5x (L0++L2) p w:=⟨fun e a=>m.own.1 e (hL.symm.subset a),(hL.map Prod.fst).nodup_iff.1 m.own.2⟩
 have s:=i.2
 rw [List.map_append,List.nodup_append] at s
 have l:∀ e ∈ L2,e.1 ∉ L0.map Prod.fst:=fun e a hm=>s.2.2 e.1 hm e.1 (List.mem_map_of_mem a) Z
 have k:∀ e ∈ L2,e.1<w.heap.size:=fun e a=>i.lt (List.mem_append_right _ a)
 refine ⟨p',⟨?_,f.sub,Hp.le_trans m.le v,?_,?_,?_,m.kept.of_call f.kept fun b hb=>?_,fun d hd=>?_⟩⟩
 ·intro q u
  rcases List.mem_append.1 u with u | u
  ·exact f.facts q u
  ·exact q.mono v (m.facts q u)
 ·intro b hb
  rcases f.dom b hb with j | j | j
  ·exact m.dom b j
  ·obtain ⟨e,a,rfl⟩:=List.mem_map.1 j
   exact .inr (h e (List.mem_append_left _ a))
  ·exact .inr (.inr (Nat.le_trans m.kept.size j))
 ·constructor
  ·intro e a
   rcases List.mem_append.1 a with a | a
   ·exact f.own.1 e a
   ·have j:=i.1 e (List.mem_append_right _ a)
    refine ⟨by rw [f.kept.block _ (k e a) (l e a)];exact j.1,?_⟩
    cases z:p' e.1 with
    | none=>rfl
    | some o =>
     rcases f.dom e.1 (by rw [z];simp) with g | g | g
     ·exact absurd j.2 g
     ·exact absurd g (l e a)
     ·have:=k e a;simp only at g;omega
  ·rw [List.map_append,List.nodup_append]
   refine ⟨f.own.2,s.2.1,?_⟩
   intro b hb c hc
   obtain ⟨e,a,rfl⟩:=List.mem_map.1 hb
   obtain ⟨x,n,rfl⟩:=List.mem_map.1 hc
   intro a0
   rcases f.may e a with g | g
   ·exact l x n (a0▸g)
   ·have:=k x n;simp only at g;omega
 ·intro e a
  rcases List.mem_append.1 a with a | a
  ·rcases f.may e a with g | g
   ·obtain ⟨x,n,h4⟩:=List.mem_map.1 g
    rw [← h4];exact h x (List.mem_append_left _ n)
   ·exact .inr (Nat.le_trans m.kept.size g)
  ·exact h e (List.mem_append_right _ a)
 ·obtain ⟨e,a,rfl⟩:=List.mem_map.1 hb
  exact h e (List.mem_append_left _ a)
 ·obtain ⟨j,z,g,h4⟩:=m.res d hd
  have y:=(Array.getElem?_eq_some_iff.1 j).1
  have t:d.1 ∉ L0.map Prod.fst:=fun hm=>by
   obtain ⟨e,a,a3⟩:=List.mem_map.1 hm
   exact g e (hL.symm.subset (List.mem_append_left _ a)) a3
  refine ⟨(f.kept.block d.1 y t).trans j,?_,fun e a=>?_,h4⟩
  ·cases h5:p' d.1 with
   | none=>rfl
   | some o =>
    rcases f.dom d.1 (by rw [h5];simp) with r | r | r
    ·exact absurd z r
    ·exact absurd r t
    ·simp only at r;omega
  ·rcases List.mem_append.1 a with a | a
   ·rcases f.may e a with r | r
    ·exact fun hE=>t (hE▸r)
    ·simp only at r;omega
   ·exact g e (hL.symm.subset (List.mem_append_right _ a))
theorem E6p {m:Operand}
  (b:cM P k args L0 Φ0 α val L1 Φ1) (j:o.op=.call c) (u:c.callee=.value m) (r:ev E m=some (.func (.func k) first cap)) (d:c.args.toList.mapM (ev E)=some vs) (t:(first++vs.toArray++cap).toList=args)
  (hΦ:A7 Φ Φ0) (hL:L.Perm (L0++L2)):Tri P n X o E L Φ α val (fun x=>L1 x++L2) (fun x=>Φ1 x++Φ):=by
 intro a w K Q l s
 obtain ⟨p,f⟩:=l.world
 have hr:=D6j l.has j u r d b.1 w
 refine B0w (by rw [j];rfl) ?_
 unfold Oper.wp
 rw [hr,Oper.upon_enter]
 have g:A5x (L0++L2) p w:=⟨fun e i=>f.own.1 e (hL.symm.subset i),(hL.map Prod.fst).nodup_iff.1 f.own.2⟩
 have:=b.2 w p (hΦ p f.facts) f.sub (g.sub (List.sublist_append_left _ _))
 rw [← t,Array.toArray_toList] at this
 refine this.mono fun e w' ⟨x,i,q⟩=>?_
 subst i
 exact s x w' (cG.call f hL q)
theorem B7j {i:Operand}
  (b:J7 P k args Φ0 v) (m:o.op=.call c) (t:c.callee=.value i) (l:ev E i=some (.func (.func k) first cap)) (d:c.args.toList.mapM (ev E)=some vs) (s:(first++vs.toArray++cap).toList=args)
  (hΦ:A7 Φ Φ0):Det P X o E L Φ v:=by
 intro a n w ⟨p,f⟩
 have hr:=D6j n m t l d b.1 w
 unfold Oper.quietAt
 rw [hr]
 refine ⟨rfl,?_⟩
 have:=b.2 w p (hΦ p f.facts) f.sub (show A5x [] p w from ⟨fun e g=>(by cases g),List.nodup_nil⟩)
 rw [← s,Array.toArray_toList] at this
 refine this.mono fun e w' ⟨x,g,j⟩=>⟨g,?_⟩
 have h:=cG.call (L0:=[]) (L2:=L) f oom j
 exact h.foll fun p f q r=>f q (List.mem_append_right _ r)
theorem D5b {c:Code} {β:Type} (I:β→Prop) (Ei:β→cA) (Li:β→Own) (Φi:β→List Pers) (μ:β→Nat) (b:β) (j:I b) (hE:R0 E (Ei b)) (hL:List.Sublist (Li b) L) (hΦ:A7 Φ (Φi b))
  (h:∀ x,I x→J P n X c (Exit.then (fun a w=>∃ y,I y∧μ y<μ x∧St n X (Ei y) (Li y) (Φi y) a w) Q) (Ei x) (Li x) (Φi x)):J P n X (.loop c) Q E L Φ:=by
 intro a w d
 refine wpIn_loop_ghost (fun k a w=>∃ x,I x∧μ x=k∧St n X (Ei x) (Li x) (Φi x) a w) (μ b) ⟨b,j,rfl,d.size,d.defers,d.has.weaken (Q2 hE),(d.world.sub hL).foll hΦ⟩ ?_
 rintro k a w ⟨x,m,rfl,i⟩
 refine Code.wpIn_mono (fun e a w q=>?_) (h x m a w i)
 cases e with
 | normal=>obtain ⟨y,f,l,g⟩:=q;exact ⟨μ y,l,y,f,rfl,g⟩
 | _=>exact q
end
end
section
variable {T U:TypeId} {a b:Int} {α:Type} {c:α→List Value} {cap:Nat} {cs:List Value} {e:Nat} {β:Type} {f:α→Option β} {g:α→Sem β} {j k:IntKind} {len:Nat} {m:Int} {o:Oper} {q:Option Addr} {sz:Nat} {v:Value} {w:World} {x:Operand} {xs:List α} {y:Operand}
section
variable {P:Program} {n:Nat} {X:Cx} {K:Act→World→Prop} {Q:Exit→Act→World→Prop} {E E':cA} {L L':Own} {Φ Φ':List Pers}
theorem A3b (a:k.min≤m) (b:m≤k.max):k.wrap m=m:=by
 cases k<;>simp only [IntKind.wrap,IntKind.min,IntKind.max,IntKind.bits,IntKind.signed] at *<;>simp at a b ⊢<;>omega
theorem G1 {u:Value} (h:J8 P X o E L Φ v) (a:v=u):J8 P X o E L Φ u:=a▸h
theorem F9x {c:Int} (d:o.op=.binOp .add T x y U) (i:ev E x=some (.int k a)) (e:ev E y=some (.int k b)) (h:a+b=c) (g:k.min≤c) (f:c≤k.max):J8 P X o E L Φ (.int k c) :=
 .pure (by simp_all[B7e,C5c,A3b])
theorem F7y {c:Int} (d:o.op=.binOp .sub T x y U) (i:ev E x=some (.int k a)) (e:ev E y=some (.int k b)) (h:a - b=c) (g:k.min≤c) (f:c≤k.max):J8 P X o E L Φ (.int k c) :=
 .pure (by simp_all[B7e,C5c,A3b])
theorem F9g {c:Int} (d:o.op=.binOp .mul T x y U) (i:ev E x=some (.int k a)) (e:ev E y=some (.int k b)) (h:a * b=c) (g:k.min≤c) (f:c≤k.max):J8 P X o E L Φ (.int k c) :=
 .pure (by simp_all[B7e,C5c,A3b])
theorem B1 {c:Int} (d:o.op=.binOp .add T x y U:=by exact Z) (g:ev E x=some (.int .i64 a):=by exact Z) (e:ev E y=some (.int .i64 b):=by exact Z) (f:a+b=c:=by exact Z) (h:-9223372036854775808≤c∧c≤9223372036854775807:=by first|decide|omega):J8 P X o E L Φ (.int .i64 c):=F9x d g e f h.1 h.2
theorem L8 {c:Int} (d:o.op=.binOp .sub T x y U:=by exact Z) (g:ev E x=some (.int .i64 a):=by exact Z) (e:ev E y=some (.int .i64 b):=by exact Z) (f:a - b=c:=by exact Z) (h:-9223372036854775808≤c∧c≤9223372036854775807:=by first|decide|omega):J8 P X o E L Φ (.int .i64 c):=F7y d g e f h.1 h.2
theorem E0v {c:Int} (d:o.op=.binOp .mul T x y U) (g:ev E x=some (.int .i64 a)) (e:ev E y=some (.int .i64 b)) (f:a * b=c) (h:-9223372036854775808≤c∧c≤9223372036854775807):J8 P X o E L Φ (.int .i64 c):=F9g d g e f h.1 h.2
theorem F9m {c:Int} (e:o.op=.binOp .quo T x y U) (h:ev E x=some (.int k a)) (f:ev E y=some (.int k b)) (hb:b≠0) (j:a.tdiv b=c) (i:k.min≤c) (g:c≤k.max):J8 P X o E L Φ (.int k c) :=
 .of_run fun l w d _=>by simp [execOp,e,D5 d h,D5 d f,eqGuard,binOp,Op.intDiv,hb,j,A3b i g]
theorem D3y {c:Int} (e:o.op=.binOp .rem T x y U) (h:ev E x=some (.int k a)) (f:ev E y=some (.int k b)) (hb:b≠0) (g:a.tmod b=c):J8 P X o E L Φ (.int k c) :=
 .of_run fun i w d _=>by simp [execOp,e,D5 d h,D5 d f,eqGuard,binOp,Op.intDiv,hb,g]
theorem A4c {c:Int} (e:o.op=.binOp .shr T x y U) (g:ev E x=some (.int k a)) (f:ev E y=some (.int j b)) (hb:0≤b) (h:a.fdiv (2 ^ (min b.toNat k.bits))=c):J8 P X o E L Φ (.int k c) :=
 .of_run fun i w d _=>by
  have:¬ b<0:=by omega
  simp [execOp,e,D5 d g,D5 d f,eqGuard,binOp,Op.shift,this,h]
theorem E1u {c:Int} (e:o.op=.binOp .shl T x y U) (g:ev E x=some (.int k a)) (f:ev E y=some (.int j b)) (hb:0≤b) (h:k.wrap (a * 2 ^ (min b.toNat k.bits))=c):J8 P X o E L Φ (.int k c) :=
 .of_run fun i w d _=>by
  have:¬ b<0:=by omega
  simp [execOp,e,D5 d g,D5 d f,eqGuard,binOp,Op.shift,this,h]
theorem B4i {S:TypeId} {c:Int} (i:P.underlying T=some (.int j)) (h:(P.underlying S).isSome=true) (e:o.op=.convert S T x) (f:ev E x=some (.int k a)) (l:j.wrap a=c):J8 P X o E L Φ (.int j c) :=
 .of_run fun m w g _=>by
  obtain ⟨d,b⟩:=Option.isSome_iff_exists.1 h
  simp [execOp,e,D5 g f,convert,run_underlying i,run_underlying b,Conv.intToInt,l]
theorem E2y {a b:Bool} (f:P.underlying T=some .bool) (d:o.op=.binOp .neq T x y U) (g:ev E x=some (.bool a)) (e:ev E y=some (.bool b)):J8 P X o E L Φ (.bool (!(a == b))) :=
 .of_run fun h w c _=>by simp [execOp,d,D5 c g,D5 c e,eqGuard,binOp,Op.equal,Op.maxDepth,run_equalIn_bool' w 9999 T a b f]
def E9i (P:Program) (T:Nat) (a:List (Nat×Value)):Option (Array Value) :=
 match (P.info? T).bind (·.zero),P.underlying T with
 | some z,some (.struct fields) =>
  match fields.mapM fun f=>(P.info? f.type).map fun i=>(f.offset,i.size) with
  | some places=>Instr.fill (places[·]?) z.cells a
  | none=>none
 | some z,some (.array _ e)=>match P.info? e with
  | some i=>Instr.fill (fun k=>some (k * i.size,i.size)) z.cells a
  | none=>none
 | _,_=>none
theorem C5v (b:∀ x y,f x=some y→(g x).run P w=.ok y w):∀ {xs:List α} {ys:List β},xs.mapM f=some ys→(xs.mapM g).run P w=.ok ys w
 | [],ys,h=>by simp_all
 | x::xs,ys,h=>by
  simp only [List.mapM_cons,Option.bind_eq_bind,Option.bind_eq_some_iff] at h
  obtain ⟨y,c,d,a,h⟩:=h
  simp only [Option.pure_def,Option.some.injEq] at h
  subst h
  simp [List.mapM_cons,b x y c,C5v b a]
theorem E3t (a:∀ x y,f x=some y→(g x).run P w=.ok y w) {xs:Array α} {ys:Array β} (h:xs.mapM f=some ys):(xs.mapM g).run P w=.ok ys w:=by
 rw [Array.mapM_eq_mapM_toList] at h ⊢
 simp only [Option.map_eq_map,Option.map_eq_some_iff] at h
 obtain ⟨c,b,rfl⟩:=h
 simp [C5v a b]
def B9n (E:cA):List (Nat×Operand)→Option (List (Nat×Value))
 | []=>some []
 | (i,x)::rest=>match ev E x,B9n E rest with
  | some v,some r=>some ((i,v)::r)
  | _,_=>none
theorem B6q {a:Act} (b:Has a E):∀ {ps:List (Nat×Operand)} {vs:List (Nat×Value)},B9n E ps=some vs→ps.map (fun (i,x)=>(i,a.eval x))=vs
 | [],vs,h=>by grind[B9n]
 | (i,x)::rest,vs,h=>by
  unfold B9n at h
  split at h
  ·rename_i v r c hr
   simp only [Option.some.injEq] at h;subst h
   simp [D5 b c,B6q b hr]
  ·cases h
theorem A2h {T:Nat} {ps:Array (Nat×Operand)} {vs:List (Nat×Value)} (q:o.op=.build T ps) (s:B9n E ps.toList=some vs) (d:E9i P T vs=some cs.toArray):J8 P X o E L Φ (.agg cs.toArray) :=
 .of_run fun a w u _=>by
  have r:(ps.map fun (x:Nat×Operand)=>(x.1,a.eval x.2)).toList=vs:=by simpa using B6q u s
  unfold E9i at d
  split at d
  ·rename_i z c h n
   obtain ⟨i,j,h⟩:=Option.bind_eq_some_iff.1 h
   split at d
   ·rename_i b m
    have g:(zeroValue T).run P w=.ok z w:=by simp [zeroValue,B5m j,h]
    have l:(c.mapM fun f=>(do pure (f.offset,← sizeOf f.type):Sem (Nat×Nat))).run P w=.ok b w:=by
     refine E3t (fun f y t=>?_) m
     obtain ⟨i,j,rfl⟩:=Option.map_eq_some_iff.1 t
     simp [A9r j]
    simp_all[execOp,Instr.build,run_underlying]
   ·cases d
  ·rename_i z k e h n
   obtain ⟨i,j,h⟩:=Option.bind_eq_some_iff.1 h
   split at d
   all_goals simp_all[zeroValue,B5m,execOp,Instr.build,run_underlying,A9r]
  ·cases d
def sl {α:Type} (c:α→List Value) (q:Option Addr) (xs:List α):Pers:=⟨fun h=>match q with | none=>xs=[] | some a=>B0p h a (xs.flatMap c),fun {h h'} hl hp=>by
 cases q with
 | none=>exact hp
 | some a=>exact (at_ a (xs.flatMap c)).mono hl hp⟩
theorem B8p (a:∀ x,(c x).length=sz):∀ {xs:List α} {k:Nat} {v:α},xs[k]?=some v→∀ j u,(c v)[j]?=some u→(xs.flatMap c)[k * sz+j]?=some u
 | [],k,v,h,j,u,hu=>by cases h
 | x::xs,0,v,h,j,u,hu=>by
  grind
 | x::xs,k+1,v,h,j,u,hu=>by
  simp only [List.getElem?_cons_succ] at h
  have:=B8p a h j u hu
  rw [List.flatMap_cons,List.getElem?_append_right (by rw [a,Nat.succ_mul];omega),a,show (k+1) * sz+j - sz=k * sz+j by rw [Nat.succ_mul];omega];exact this
theorem B0p.sub (g:∀ x,(c x).length=sz) {h:Hp} {a:Addr} (e:B0p h a (xs.flatMap c)) {k:Nat} {v:α} (d:xs[k]?=some v):B0p h (a.add (k * sz)) (c v):=by
 obtain ⟨b,o,l⟩:=a
 obtain i | ⟨h0,cc,T,fr,h1,h2⟩:=e
 ·exact .inl (List.flatMap_eq_nil_iff.1 i v (List.mem_of_getElem? d))
 simp only at h0 h1 h2
 subst h0
 rw [A3j]
 exact .inr ⟨rfl,cc,T,fr,h1,fun j u f=>by simp_all[Nat.add_assoc,B8p]⟩
structure SlTy (P:Program) (T e sz:Nat):Prop where
 ty:P.underlying T=some (.slice e)
 size:(P.info? e).map (·.size)=some sz
theorem SlTy.run {T:Nat} (h:SlTy P T e sz) (w:World):(sizeOf e).run P w=.ok sz w:=by
 obtain ⟨i,a,b⟩:=Option.map_eq_some_iff.1 h.size
 rw [A9r a,b]
theorem G3h {T:Nat} (b:SlTy P T e sz) {a:Addr} {k:Nat} (c:k<len) (w:World):(Instr.indexAt T (.slice (some a) len cap) (.int .i64 k)).run P w=.ok (.pointer (some (a.add (k * sz)))) w:=by
 have d:(0:Int)≤k∧(k:Int)<len:=by omega
 simp [Instr.indexAt,asIntOf,run_underlying b.ty,b.run,d,Nat.not_le.2 c]
theorem F0t {p:Hp} (h:(sl c q xs).p p) {k:Nat} (b:k<xs.length):∃ a,q=some a:=by
 cases q with
 | none=>grind[sl]
 | some a=>simp
theorem F6b {T:Nat} {a:Addr} {b:Nat} (j:SlTy P T e sz) (d:o.op=.indexAddr T x y)
  (h:ev E x=some (.slice (some a) b cap)) (g:ev E y=some (.int .i64 m)) (k:Nat) (i:m=k) (f:k<b):J8 P X o E L Φ (.pointer (some (a.add (k * sz)))) :=
 .of_run fun l w c _=>by
  subst i
  simp [execOp,d,D5 c h,D5 c g,G3h j f]
theorem H8 {ops:Array Oper} {i m:Nat} {f:α→List Value} (j:Nat) (hΦ:Φ[j]?=some (sl f q xs)) (e:0<xs.length) (h:∀ a,q=some a→JI P n X ops i m K Q E L Φ):JI P n X ops i m K Q E L Φ:=fun a w c=>by
 obtain ⟨p,d⟩:=c.world
 obtain ⟨b,hb⟩:=F0t (d.facts _ (List.mem_of_getElem? hΦ)) e
 exact h b hb a w c
theorem F3 {T:Nat} {us:List Value} (l:P.underlying T=some (.array len e)) {agg:Bool} (b:Ty P e sz agg) (g:o.op=.index T x y)
  (i:ev E x=some (.agg cs.toArray)) (h:ev E y=some (.int .i64 m)) (k:Nat) (j:m=k:=by exact Z) (q:k<len:=by first|decide|omega) (d:(cs.drop (k * sz)).take sz=us:=by exact Z) (a:(if agg then some (.agg us.toArray) else us[0]?)=some v:=by exact Z) (p:Nat.blt 0 sz=true:=by exact Z):J8 P X o E L Φ v :=
 .of_run fun r w f _=>by
  subst j
  have n:(0:Int)≤k∧(k:Int)<len:=by omega
  have c:0<sz:=by simp_all
  simp only [execOp,g,D5 f i,D5 f h,Instr.index,asIntOf,Sem.run_bind,Sem.run_pure,Result.andThen_ok,run_underlying l,n,and_self,if_true,Int.toNat_natCast,b.size,part,b.agg]
  cases agg with
  | true =>
   simp only [if_true,Option.some.injEq] at a
   subst a
   simp [b.size]
   exact d
  | false =>
   simp only [Bool.false_eq_true,if_false] at a
   have:cs.toArray[k * sz]?=some v:=by
    grind
   simp_all
structure EqT (P:Program) (T:Nat) {α:Type} [DecidableEq α] (c:α→List Value):Prop where
 run:∀ (x y:α) (w:World),(Op.equal T (.agg (c x).toArray) (.agg (c y).toArray)).run P w=.ok (decide (x=y)) w
 guard:P.eqGuardType P.depth T=false
theorem A3m [DecidableEq α] {a b:α} (e:EqT P T c) (f:o.op=.binOp .eql T x y U) (h:ev E x=some (.agg (c a).toArray)) (g:ev E y=some (.agg (c b).toArray)):J8 P X o E L Φ (.bool (decide (a=b))) :=
 .of_run fun i w d _=>by simp [execOp,f,D5 d h,D5 d g,eqGuard,e.guard,binOp,e.run]
theorem A0f [DecidableEq α] {a b:α} (e:EqT P T c) (f:o.op=.binOp .neq T x y U) (h:ev E x=some (.agg (c a).toArray)) (g:ev E y=some (.agg (c b).toArray)):J8 P X o E L Φ (.bool (!decide (a=b))) :=
 .of_run fun i w d _=>by simp [execOp,f,D5 d h,D5 d g,eqGuard,e.guard,binOp,e.run]
end
end
section
variable {T:TypeId}
def C1l (P:Program) (T:TypeId):Bool:=match P.underlying T with
 | some (.struct _) | some (.array _ _)=>true
 | _=>false
def vOf (P:Program) (T:TypeId) (us:List Value):Value:=if C1l P T then .agg us.toArray else us.headD undef
def F5d (P:Program) (r:TypeId→List Value→List Value→Bool):List Field→Nat→List Value→List Value→Bool
 | [],_,us,vs=>us.isEmpty&&vs.isEmpty
 | f :: fs, off, us, vs => f.name != "_" && f.offset == off && r f.type (us.take (P.cellsOf f.type)) (vs.take (P.cellsOf f.type)) && F5d P r fs (off + P.cellsOf f.type) (us.drop (P.cellsOf f.type)) (vs.drop (P.cellsOf f.type))
def F2s (P:Program) (r:TypeId→List Value→List Value→Bool) (e:TypeId):Nat→List Value→List Value→Bool
 | 0,us,vs=>us.isEmpty&&vs.isEmpty
 | n+1,us,vs=>r e (us.take (P.cellsOf e)) (vs.take (P.cellsOf e))&&F2s P r e n (us.drop (P.cellsOf e)) (vs.drop (P.cellsOf e))
def wk (P:Program):Nat→TypeId→List Value→List Value→Bool
 | 0,_,_,_=>false
 | d+1,T,us,vs=>(P.info? T).isSome&&us.length == P.cellsOf T&&vs.length == P.cellsOf T&&match P.underlying T with
  | some .bool=>match us,vs with
   | [.bool _],[.bool _]=>true
   | _,_=>false
  | some (.int k)=>match us,vs with
   | [.int a _],[.int b _]=>decide (a=k)&&decide (b=k)
   | _,_=>false
  | some .string=>match us,vs with
   | [.string _],[.string _]=>true
   | _,_=>false
  | some (.struct fs)=>!P.stoodInHeld T&&F5d P (wk P d) fs.toList 0 us vs
  | some (.array n e)=>n != 0&&F2s P (wk P d) e n us vs
  | _=>false
section
variable {P:Program}
theorem E3j {i:TypeInfo} (h:P.info? T=some i):P.cellsOf T=i.size:=by grind[Program.cellsOf]
theorem C1m (b:(P.info? T).isSome=true) {d:TypeDesc} (c:P.underlying T=some d) {xs:Array Value} {off:Nat} {us:List Value} (e:(xs.toList.drop off).take (P.cellsOf T)=us) (g:C1l P T=false→us≠[]) (w:World) :
  (part T xs off).run P w=.ok (vOf P T us) w:=by
 obtain ⟨i,b⟩:=Option.isSome_iff_exists.1 b
 have a:(isAgg T).run P w=.ok (C1l P T) w:=by
  unfold isAgg C1l
  rw [Sem.run_bind,run_underlying c,c]
  cases d<;>rfl
 cases hr:C1l P T with
 | true =>
  have:xs.extract off (off+i.size)=us.toArray:=by
   grind[E3j]
  simp_all[part,A9r,vOf]
 | false =>
  have f:xs[off]?=some (us.headD undef):=by
   cases us with
   | nil=>grind
   | cons u us =>
    have:=congrArg (·[0]?) e
    grind
  simp_all[part,vOf]
theorem F0g:∀ (d:Nat) (k:Nat) (T:TypeId) (us vs:List Value) (w:World),wk P d T us vs=true→∃ b:Bool,(Op.equalIn (k+d) T (vOf P T us) (vOf P T vs)).run P w=.ok b w∧(b=true ↔ us=vs)
 | 0,_,_,_,_,_,h=>by grind[wk]
 | d+1,k,T,us,vs,w,h=>by
  have ih:=fun T us vs h=>F0g d k T us vs w h
  unfold wk at h
  simp only [Bool.and_eq_true,beq_iff_eq] at h
  obtain ⟨⟨⟨hi,a8⟩,a5⟩,h⟩:=h
  have z:∀ (T:TypeId) (us vs:List Value),wk P d T us vs=true→(P.info? T).isSome=true∧us.length=P.cellsOf T∧vs.length=P.cellsOf T∧(∃ dd,P.underlying T=some dd)∧(C1l P T=false→us≠[]∧vs≠[]):=by
   intro T us vs h
   cases d with
   | zero=>simp [wk] at h
   | succ d =>
    unfold wk at h
    simp only [Bool.and_eq_true,beq_iff_eq] at h
    obtain ⟨⟨⟨hi,a8⟩,a5⟩,h⟩:=h
    refine ⟨hi,a8,a5,?_,?_⟩
    ·split at h<;>first|exact ⟨_,‹_›⟩|cases h
    ·intro hr
     split at h
     ·split at h
      ·simp
      ·cases h
     ·split at h
      ·simp
      ·cases h
     ·split at h
      ·simp
      ·cases h
     ·rename_i l;simp [C1l,l] at hr
     ·rename_i l;simp [C1l,l] at hr
     ·cases h
  split at h
  ·rename_i l
   have hr:C1l P T=false:=by simp [C1l,l]
   split at h
   ·rename_i a b
    exact ⟨a == b,by simp [vOf,hr,← Nat.add_assoc,run_equalIn_bool' w _ T a b l],by simp⟩
   ·cases h
  ·rename_i q l
   have hr:C1l P T=false:=by simp [C1l,l]
   split at h
   ·rename_i j a j' b
    simp only [Bool.and_eq_true,decide_eq_true_eq] at h
    obtain ⟨rfl,rfl⟩:=h
    exact ⟨a == b,by simp [vOf,hr,← Nat.add_assoc,run_equalIn_int w _ T _ _ a b l],by simp⟩
   ·cases h
  ·rename_i l
   have hr:C1l P T=false:=by simp [C1l,l]
   split at h
   ·rename_i a b
    refine ⟨a.toList == b.toList,by simp [vOf,hr,← Nat.add_assoc,run_equalIn_string w _ T a b l],?_⟩
    rw [beq_iff_eq,ByteArray.toList_eq,ByteArray.toList_eq]
    constructor
    ·intro e
     obtain ⟨⟨x⟩⟩:=a
     obtain ⟨⟨y⟩⟩:=b
     simp only at e
     rw [e]
    ·intro e
     simp only [List.cons.injEq,Value.string.injEq,and_true] at e
     rw [e]
   ·cases h
  ·rename_i fs l
   have hr:C1l P T=true:=by simp [C1l,l]
   simp only [Bool.and_eq_true,Bool.not_eq_true'] at h
   have hf:P.fieldsOf T=fs:=by simp [Program.fieldsOf,l]
   simp only [vOf,hr,if_true,Nat.add_succ]
   rw [run_equalIn_struct w (k+d) T us.toArray vs.toArray (by rw [hf];exact l) h.1,hf]
   have p:∀ (fs:List Field) (off:Nat) (c g:List Value),us.drop off=c→vs.drop off=g→F5d P (wk P d) fs off c g=true →
     ∃ b:Bool,(Op.eqFields (k+d) us.toArray vs.toArray fs).run P w=.ok b w∧(b=true ↔ c=g):=by
    intro fs
    induction fs with
    | nil =>
     intro off c g _ _ h
     simp only [F5d,Bool.and_eq_true,List.isEmpty_iff] at h
     exact ⟨true,by simp [Op.eqFields],by simp [h.1,h.2]⟩
    | cons f fs ihf =>
     intro off c g h1 h2 h
     simp only [F5d,Bool.and_eq_true,bne_iff_ne,beq_iff_eq] at h
     obtain ⟨⟨⟨ak,v⟩,hk⟩,n⟩:=h
     obtain ⟨s,a4,a2,⟨dd,o⟩,r⟩:=z _ _ _ hk
     obtain ⟨b,hb,u⟩:=ih _ _ _ hk
     obtain ⟨b',a0,t⟩:=ihf (off+P.cellsOf f.type) _ _ (by rw [← h1,List.drop_drop]) (by rw [← h2,List.drop_drop]) n
     have p1:=C1m (P:=P) s o (xs:=us.toArray) (off:=f.offset) (us:=c.take (P.cellsOf f.type)) (by rw [v,← h1]) (fun e=>(r e).1) w
     have p2:=C1m (P:=P) s o (xs:=vs.toArray) (off:=f.offset) (us:=g.take (P.cellsOf f.type)) (by rw [v,← h2]) (fun e=>(r e).2) w
     have split:c=g ↔ c.take (P.cellsOf f.type)=g.take (P.cellsOf f.type)∧c.drop (P.cellsOf f.type)=g.drop (P.cellsOf f.type):=by
      constructor
      ·intro e;rw [e];exact ⟨rfl,rfl⟩
      ·intro ⟨e1,e2⟩;rw [← List.take_append_drop (P.cellsOf f.type) c,e1,e2,List.take_append_drop]
     simp only [Op.eqFields,ne_eq,ak,not_false_eq_true,if_true,Sem.run_bind,p1,p2,Result.andThen_ok,hb]
     cases b with
     | false=>exact ⟨false,by simp,by rw [split,← u];simp⟩
     | true=>exact ⟨b',by simpa using a0,by rw [split,← u,t];simp⟩
   exact p fs.toList 0 us vs Z Z h.2
  ·rename_i m e l
   have hr:C1l P T=true:=by simp [C1l,l]
   obtain ⟨i0,ap⟩:=Option.isSome_iff_exists.1 hi
   simp only [vOf,hr,if_true,Nat.add_succ]
   cases m with
   | zero=>simp at h
   | succ m =>
    simp only [Bool.and_eq_true] at h
    replace h:=h.2
    have a1:∃ i,P.info? e=some i:=by
     have:wk P d e (us.take (P.cellsOf e)) (vs.take (P.cellsOf e))=true:=by simp only [F2s,Bool.and_eq_true] at h;exact h.1
     exact Option.isSome_iff_exists.1 (z _ _ _ this).1
    obtain ⟨ie,a1⟩:=a1
    rw [run_equalIn_array w (k+d) us.toArray vs.toArray l a1,List.range_eq_range']
    have p:∀ (m:Nat) (j:Nat) (c g:List Value),us.drop (j * P.cellsOf e)=c→vs.drop (j * P.cellsOf e)=g→F2s P (wk P d) e m c g=true →
      ∃ b:Bool,(Op.eqItems (k+d) e (P.cellsOf e) us.toArray vs.toArray (List.range' j m)).run P w=.ok b w∧(b=true ↔ c=g):=by
     intro m
     induction m with
     | zero =>
      intro j c g _ _ h
      simp only [F2s,Bool.and_eq_true,List.isEmpty_iff] at h
      exact ⟨true,by simp [Op.eqItems],by simp [h.1,h.2]⟩
     | succ m ihm =>
      intro j c g h1 h2 h
      simp only [F2s,Bool.and_eq_true] at h
      obtain ⟨hk,n⟩:=h
      obtain ⟨s,a4,a2,⟨dd,o⟩,r⟩:=z _ _ _ hk
      obtain ⟨b,hb,u⟩:=ih _ _ _ hk
      obtain ⟨b',a0,t⟩:=ihm (j+1) _ _ (by rw [← h1,List.drop_drop,Nat.succ_mul]) (by rw [← h2,List.drop_drop,Nat.succ_mul]) n
      have p1:=C1m (P:=P) s o (xs:=us.toArray) (off:=j * P.cellsOf e) (us:=c.take (P.cellsOf e)) (by rw [← h1]) (fun e=>(r e).1) w
      have p2:=C1m (P:=P) s o (xs:=vs.toArray) (off:=j * P.cellsOf e) (us:=g.take (P.cellsOf e)) (by rw [← h2]) (fun e=>(r e).2) w
      have split:c=g ↔ c.take (P.cellsOf e)=g.take (P.cellsOf e)∧c.drop (P.cellsOf e)=g.drop (P.cellsOf e):=by
       constructor
       ·intro e;rw [e];exact ⟨rfl,rfl⟩
       ·intro ⟨e1,e2⟩;rw [← List.take_append_drop (P.cellsOf e) c,e1,e2,List.take_append_drop]
      rw [List.range'_succ]
      simp only [Op.eqItems,Sem.run_bind,p1,p2,Result.andThen_ok,hb]
      cases b with
      | false=>exact ⟨false,by simp,by rw [split,← u];simp⟩
      | true=>exact ⟨b',by simpa using a0,by rw [split,← u,t];simp⟩
    exact p (m+1) 0 us vs oom oom h
  ·cases h
theorem EqT.of {α:Type} [DecidableEq α] {c:α→List Value} (d:Nat) (g:Nat.ble d 10000=true) (hr:C1l P T=true) (i:P.eqGuardType P.depth T=false) (h:∀ x y,wk P d T (c x) (c y)=true) (j:∀ x y,c x=c y→x=y):EqT P T c:=by
 refine ⟨fun x y w=>?_,i⟩
 obtain ⟨b,hb,a⟩:=F0g d (10000 - d) T (c x) (c y) w (h x y)
 have f:=Nat.le_of_ble_eq_true g
 rw [Nat.sub_add_cancel f] at hb
 simp only [vOf,hr,if_true] at hb
 unfold Op.equal Op.maxDepth
 rw [hb]
 congr 1
 grind
end
end
section
variable {T e:Nat} {o:Oper} {sz:Nat}
abbrev ag (cs:List Value):Value:=.agg cs.toArray
abbrev bs (l:List UInt8):ByteArray:=⟨l.toArray⟩
structure Slc where
 q:Option Addr
 n:Nat
 k:Nat
deriving DecidableEq
abbrev jY:Slc:=⟨none,0,0⟩
section
variable {P:Program} {n:Nat} {X:Cx} {K:Act→World→Prop} {Q:Exit→Act→World→Prop} {E E':cA} {L L':Own} {Φ Φ':List Pers}
theorem D4s {b:Nat} {agg:Bool} {x:Operand} {a:Addr} (g:P.underlying T=some (.array b e)) (d:Ty P e sz agg) (c:o.op=.slice T x none none none) (h:ev E x=some (.pointer (some a))):J8 P X o E L Φ (.slice (some a) b b) :=
 .of_run fun i w f _=>by
  by_cases h0:b=0
  ·subst h0
   simp [execOp,c,D5 f h,Instr.sliceAt,run_underlying g,Instr.sureAddr,Instr.sliceBounds,d.size]
  ·simp [execOp,c,D5 f h,Instr.sliceAt,run_underlying g,Instr.sureAddr,Instr.sliceBounds,d.size,Addr.add]
theorem B0 {d:Nat} {ps:Array (Nat×Operand)} {vs:List (Nat×Value)} {α:Type} {c:α→List Value} {xs:List α} (s:SlTy P T e sz) (h:Nat.blt 0 (d * sz)=true:=by exact Z) (t:o.op=.buildSlice T d ps:=by exact Z) (g:B9n E ps.toList=some vs:=by exact Z)
  (f:(if d * sz > 2 ^ 24 then none else match (P.info? e).bind (·.zero) with
   | some z=>Instr.fill (fun i=>some (i * sz,sz)) ((Array.range (d * sz)).map (z.cells[· % z.cells.size]!)) vs
   | none=>none)=some (xs.flatMap c).toArray:=by kernel_rfl) :
  Tri P n X o E L Φ Nat (fun b=>.slice (some ⟨b,0,none⟩) d d) (fun _=>L) (fun b=>sl c (some ⟨b,0,none⟩) xs::Φ):=by
 intro a w K Q u hk
 have hm:(ps.map fun (x:Nat×Operand)=>(x.1,a.eval x.2)).toList=vs:=by simpa using B6q u.has g
 split at f
 ·cases f
 ·rename_i m
  split at f
  ·rename_i z hz
   obtain ⟨i,hi,r⟩:=Option.bind_eq_some_iff.1 hz
   have l:(zeroValue e).run P w=.ok z w:=by simp_all[zeroValue,B5m]
   have hr:(execOp a.eval o).run P w=.ok (.value (.slice (some ⟨w.heap.size,0,none⟩) d d)) (w.alloc (.cells (xs.flatMap c).toArray e (0,0))):=by
    have y:¬ d * sz=0:=by
     grind[Nat.blt_eq]
    simp only [execOp,t,Instr.buildSlice,Sem.run_bind,run_underlying s.ty,Result.andThen_ok,s.run,m,y,Sem.run_ite,if_false,l,Sem.run_pure,hm,f,newRow,run_newObj]
    rfl
   refine B0w (by rw [t];rfl) ?_
   unfold Oper.wp
   rw [hr]
   refine hk w.heap.size _ ?_
   have:=(u.world.alloc (.cells (xs.flatMap c).toArray e (0,0))).freeze (i:=0) Z
   refine this.foll fun p g q k=>?_
   rcases List.mem_cons.1 k with rfl | k
   ·have hb:p w.heap.size=some (.cells (xs.flatMap c).toArray e (0,0)):=g (blk w.heap.size (.cells (xs.flatMap c).toArray e (0,0))) oom
    exact .inr ⟨rfl,_,_,_,hb,fun j v hj=>by grind⟩
   grind
  ·cases f
end
end
section
variable {T:Nat} {a:Addr} {c:Code} {k:Nat} {o:Oper} {q:Pers} {sz:Nat} {us ws:List Value} {x:Operand}
section
variable {P:Program} {n:Nat} {X:Cx} {K:Act→World→Prop} {Q:Exit→Act→World→Prop} {E E':cA} {L L':Own} {Φ Φ':List Pers}
def V5 (Φ:List Pers) (q:Pers):Prop:=∀ p:Hp,(∀ q ∈ Φ,q.p p)→q.p p
theorem A5 (j:Nat) (h:Φ[j]?=some q):V5 Φ q:=fun _ a=>a q (List.mem_of_getElem? h)
theorem G5l {α:Type} {c:α→List Value} {xs:List α} (e:∀ x,(c x).length=sz) (j:Nat) (h:Φ[j]?=some (sl c (some a) xs)) {v:α} (d:xs[k]?=some v):V5 Φ (at_ (a.add (k * sz)) (c v)) :=
 fun p b=>B0p.sub e (show B0p p a (xs.flatMap c) from b _ (List.mem_of_getElem? h)) d
theorem U8 (h:V5 Φ (at_ a us)) (off n:Nat) (e:(us.drop off).take n=ws):V5 Φ (at_ (a.add off) ws):=fun p f=>by
 obtain ⟨b,o,i⟩:=a
 obtain g | ⟨h0,c,T,fr,h1,h2⟩:=h p f
 ·exact .inl (by grind)
 simp only at h0 h1 h2
 subst h0
 rw [A3j]
 refine .inr ⟨rfl,c,T,fr,h1,fun j v d=>?_⟩
 grind
theorem U0 (h:V5 Φ (at_ a us)) (n:Nat) (b:us.take n=ws):V5 Φ (at_ a ws):=by
 have:=U8 h 0 n (ws:=ws) (by grind)
 grind[Addr.add]
theorem J0 (i:Ty P T sz true) (c:o.op=.load T x) (d:ev E x=some (.pointer (some a))) (hΦ:V5 Φ (at_ a us)) (e:us.length=sz) :
  J8 P X o E L Φ (.agg us.toArray):=.of_run fun l w g ⟨p,b⟩=>by
 have k:B0p p a us:=hΦ p b.facts
 simp [execOp,c,D5 g d,C1u i e fun j v f=>k.cell b.sub f]
theorem B6 {v:Value} (f:Ty P T 1 false) (c:o.op=.load T x) (i:ev E x=some (.pointer (some a))) (hΦ:V5 Φ (at_ a us)) (d:us[0]?=some v) :
  J8 P X o E L Φ v:=.of_run fun k w e ⟨p,b⟩=>by
 have g:B0p p a us:=hΦ p b.facts
 simp [execOp,c,D5 e i,C1s f (g.cell (j:=0) b.sub d)]
theorem A2w {e len b off:Nat} {agg:Bool} {y:Operand} {m:Int} (l:P.underlying T=some (.array len e)) (j:Ty P e sz agg) (d:o.op=.indexAddr T x y)
  (h:ev E x=some (.pointer (some ⟨b,off,none⟩))) (g:ev E y=some (.int .i64 m)) (k:Nat) (i:m=k) (f:Nat.blt k len=true):J8 P X o E L Φ (.pointer (some ⟨b,off+k * sz,none⟩)) :=
 .of_run fun p w c _=>by
  subst i
  have a:k<len:=by simp_all
  have n:(0:Int)≤k∧(k:Int)<len:=by omega
  simp [execOp,d,D5 c h,D5 c g,Instr.indexAt,asIntOf,run_underlying l,Instr.sureAddr,j.size,n,Nat.not_le.2 a,A3j]
theorem A1g (k:Nat) (h:JQ n X (Code.roundsIn (FW X.rho) 0 P c Q k) E L Φ):J P n X (.loop c) Q E L Φ:=fun a w b=>wpIn_loop_rounds k (h a w b)
theorem E9 (h:J P n X c (Exit.then (Code.roundsIn (FW X.rho) 0 P c Q k) Q) E L Φ):JQ n X (Code.roundsIn (FW X.rho) 0 P c Q (k+1)) E L Φ:=fun a w b=>by
 rw [roundsIn_succ];exact h a w b
theorem A7.con1 (h:V5 Φ q) (k:A7 Φ Φ'):A7 Φ (q::Φ'):=A7.cons h k
end
end
section
variable {R:cA} {b g:Bool} {i id m:Nat} {o:Oper} {ops:Array Oper} {v:Value} {y:Code}
abbrev iv (n:Int):Value:=.int .i64 n
@[reducible] def aC (n:Nat):Value := .func (.func n) #[] #[]
abbrev bv (b:Bool):Value:=.bool b
abbrev pt (b o:Nat):Value:=.pointer (some ⟨b,o,none⟩)
abbrev pa (a:Addr):Value:=.pointer (some a)
abbrev sv (l:List UInt8):Value:=.string (bs l)
section
variable {P:Program} {n:Nat} {X:Cx} {K:Act→World→Prop} {Q:Exit→Act→World→Prop} {E E':cA} {L L':Own} {Φ Φ':List Pers}
def C2f (E:cA) (t:Nat):Bool:=match E.lookup t with | some _=>true | none=>false
def D6z (ops:Array Oper) (E a:cA):Nat→Nat→Bool
 | 0,_=>true
 | k+1,i=>(match (ops[i]?).bind (·.dst) with
  | some d=>C2f a d||!C2f E d
  | none=>true)&&D6z ops E a k (i+1)
theorem C0e (A B:cA) (t:Nat):(A++B).lookup t=match A.lookup t with | some v=>some v | none=>B.lookup t:=by grind
theorem D1r {b:cA} {t:Nat} (E0:cA) (f:E0.lookup t=some v) (g:b.lookup t=none):∀ (k i:Nat) {E R:cA},D6z ops E0 b k i=true→B1g P n ops k i E=some R→E.lookup t=some v→R.lookup t=some v
 | 0,i,E,R,_,h,he=>by grind[B1g]
 | k+1,i,E,R,hk,h,he=>by
  unfold B1g at h
  unfold D6z at hk
  simp only [Bool.and_eq_true] at hk
  split at h
  ·rename_i o j
   split at h
   ·rename_i E1 a
    refine D1r E0 f g k (i+1) hk.2 h ?_
    grind[C2f,cA.put,B7t]
   ·cases h
  ·cases h
def A7r (P:Program) (n:Nat) (ops:Array Oper) (k i:Nat) (E a:cA):Option cA:=if D6z ops E a k i then F4k P n ops k i E a else none
theorem E1h {k:Nat} {b:cA} (h:A7r P n ops k i E b=some b):∃ R,B1g P n ops k i E=some R∧∀ a,Has a R→Has a (b++E):=by
 unfold A7r at h
 split at h
 ·rename_i f
  unfold F4k at h
  split at h
  ·rename_i R hR
   refine ⟨R,hR,fun a d t v e=>?_⟩
   rw [C0e] at e
   split at e
   ·rename_i u c
    exact (d.weaken (Q2 (C5f h))) t v (by grind)
   ·rename_i c
    exact d t v (D1r E e c k i f hR e)
  ·cases h
 ·cases h
theorem ip (k m:Nat) (b:cA) (h:A7r P n ops k i E b=some b) (g:JI P n X ops (i+k) m K Q (b++E) L Φ):JI P n X ops i (k+m) K Q E L Φ:=by
 obtain ⟨R,hR,d⟩:=E1h h
 exact F5u k i hR fun a w c=>g a w ⟨c.size,c.defers,d a c.has,c.world⟩
theorem dp (k m:Nat) (b:cA) (h:A7r P n ops k i E b=some b) (g:JD P n X ops (i+k) m K (b++E) L Φ):JD P n X ops i (k+m) K E L Φ:=by
 obtain ⟨R,hR,e⟩:=E1h h
 exact F4b k i hR fun a f d c=>g a f d (e a c)
def C7f (n:Nat) (ops:Array Oper) (i:Nat) (E:cA):Option Oper :=
 match ops[i]? with
 | some o=>if (B3p ops o E == some true)&&A1m n o.dst then some o else none
 | none=>none
theorem Q4 (h:C7f n ops i E=some o):ops[i]?=some o∧B3p ops o E=some true∧A1m n o.dst=true:=by
 unfold C7f at h
 grind
theorem it {α:Type} {val:α→Value} {L':α→Own} {Φ':α→List Pers} (a:C7f n ops i E=some o) (b:Tri P n X o E L Φ α val L' Φ')
  (h:∀ x,JI P n X ops (i+1) m K Q (cA.put E o.dst (val x)) (L' x) (Φ' x)):JI P n X ops i (m+1) K Q E L Φ:=by grind[D5v,Q4]
theorem ix (a:C7f n ops i E=some o) (b:J8 P X o E L Φ v)
  (h:JI P n X ops (i+1) m K Q (cA.put E o.dst v) L Φ):JI P n X ops i (m+1) K Q E L Φ:=E2k (Q4 a).1 (Q4 a).2.1 (Q4 a).2.2 b.det h
theorem ixc (a:C7f n ops i E=some o) (b:Det P X o E L Φ v)
  (h:JI P n X ops (i+1) m K Q (cA.put E o.dst v) L Φ):JI P n X ops i (m+1) K Q E L Φ:=by grind[E2k,Q4]
theorem dd (a:C7f n ops i E=some o) (b:J8 P X o E L Φ v)
  (h:JD P n X ops (i+1) m K (cA.put E o.dst v) L Φ):JD P n X ops i (m+1) K E L Φ:=E1s (Q4 a).1 (Q4 a).2.1 (Q4 a).2.2 b.det h
theorem ddc (a:C7f n ops i E=some o) (b:Det P X o E L Φ v)
  (h:JD P n X ops (i+1) m K (cA.put E o.dst v) L Φ):JD P n X ops i (m+1) K E L Φ:=by grind[E1s,Q4]
theorem G4m (k m t p:Nat) (x:Bool) (d:E.lookup t=some (.bool g)) (f:A7r P n ops k i ((t,.bool false)::E) [(p,.bool false)]=some [(p,.bool false)])
  (j:g=true→JI P n X ops i k (fun a w=>St n X ((p,.bool x)::E) L Φ a w) Q ((t,.bool true)::E) L Φ) (h:JI P n X ops (i+k) m K Q ((p,.bool (g&&x))::E) L Φ):JI P n X ops i (k+m) K Q E L Φ:=by
 refine F6r k m ((p,.bool (g&&x))::E) L Φ (E7r t g d (fun e=>?_) (fun e=>?_)) h
 ·grind
 ·subst e
  refine ip k 0 _ f (A1 fun a w c=>⟨c.size,c.defers,?_,c.world⟩)
  intro u v b
  by_cases hup:u=p
  ·subst hup;simp [List.lookup] at b;subst b;exact c.has _ _ (by simp)
  ·have hb:(u == p)=false:=by grind
   simp only [List.lookup,hb] at b
   by_cases hut:u=t
   ·subst hut;rw [d] at b;simp at b;subst b;exact c.has _ _ (by grind)
   ·have l:(u == t)=false:=by grind
    exact c.has _ _ (by grind)
theorem ior (k m t p:Nat) (x:Bool) (d:E.lookup t=some (.bool g)) (f:A7r P n ops k i ((t,.bool true)::E) [(p,.bool true)]=some [(p,.bool true)])
  (j:g=false→JI P n X ops i k (fun a w=>St n X ((p,.bool x)::E) L Φ a w) Q ((t,.bool false)::E) L Φ) (h:JI P n X ops (i+k) m K Q ((p,.bool (g||x))::E) L Φ):JI P n X ops i (k+m) K Q E L Φ:=by
 refine F6r k m ((p,.bool (g||x))::E) L Φ (E7r t g d (fun e=>?_) (fun e=>?_)) h
 ·subst e
  refine ip k 0 _ f (A1 fun a w c=>⟨c.size,c.defers,?_,c.world⟩)
  intro u v b
  by_cases hup:u=p
  ·subst hup;simp [List.lookup] at b;subst b;exact c.has _ _ (by simp)
  ·have hb:(u == p)=false:=by grind
   simp only [List.lookup,hb] at b
   by_cases hut:u=t
   ·subst hut;rw [d] at b;simp at b;subst b;exact c.has _ _ (by grind)
   ·have l:(u == t)=false:=by grind
    exact c.has _ _ (by grind)
 grind
theorem G4z (k m t p:Nat) (x:Bool) (d:E.lookup t=some (.bool g)) (f:A7r P n ops k i ((t,.bool false)::E) [(p,.bool false)]=some [(p,.bool false)])
  (j:g=true→JD P n X ops i k (fun a _=>a.tmps.size=n∧a.defers=X.marks∧Has a ((p,.bool x)::E)) ((t,.bool true)::E) L Φ) (h:JD P n X ops (i+k) m K ((p,.bool (g&&x))::E) L Φ):JD P n X ops i (k+m) K E L Φ:=by
 refine F4e k m ((p,.bool (g&&x))::E) (E6t t g d (fun e=>?_) (fun e=>?_)) h
 ·grind
 ·subst e
  refine dp k 0 _ f (E3b fun a w c=>⟨c.size,c.defers,?_⟩)
  intro u v b
  by_cases hup:u=p
  ·subst hup;simp [List.lookup] at b;subst b;exact c.has _ _ (by simp)
  ·have hb:(u == p)=false:=by grind
   simp only [List.lookup,hb] at b
   by_cases hut:u=t
   ·subst hut;rw [d] at b;simp at b;subst b;exact c.has _ _ (by grind)
   ·have l:(u == t)=false:=by grind
    exact c.has _ _ (by grind)
theorem dor (k m t p:Nat) (x:Bool) (d:E.lookup t=some (.bool g)) (f:A7r P n ops k i ((t,.bool true)::E) [(p,.bool true)]=some [(p,.bool true)])
  (j:g=false→JD P n X ops i k (fun a _=>a.tmps.size=n∧a.defers=X.marks∧Has a ((p,.bool x)::E)) ((t,.bool false)::E) L Φ) (h:JD P n X ops (i+k) m K ((p,.bool (g||x))::E) L Φ):JD P n X ops i (k+m) K E L Φ:=by
 refine F4e k m ((p,.bool (g||x))::E) (E6t t g d (fun e=>?_) (fun e=>?_)) h
 ·subst e
  refine dp k 0 _ f (E3b fun a w c=>⟨c.size,c.defers,?_⟩)
  intro u v b
  by_cases hup:u=p
  ·subst hup;simp [List.lookup] at b;subst b;exact c.has _ _ (by simp)
  ·have hb:(u == p)=false:=by grind
   simp only [List.lookup,hb] at b
   by_cases hut:u=t
   ·subst hut;rw [d] at b;simp at b;subst b;exact c.has _ _ (by grind)
   ·have l:(u == t)=false:=by grind
    exact c.has _ _ (by grind)
 grind
def D2p (E:cA) (t p:Nat):cA→Bool
 | []=>true
 | (u,_)::rest=>(u == t||u == p||!C2f E u)&&D2p E t p rest
theorem F0v (c t p:Nat) (o:g=b) (hR:R.drop c=E) (m:D2p E t p (R.take c)=true) (n:E.lookup t=some (.bool g)) (k:R.lookup t=some (.bool b)) (l:R.lookup p=some v) {a:Act} (j:Has a R):Has a ((p,v)::E):=by
 intro u x d
 by_cases hup:u=p
 ·subst hup;simp [List.lookup] at d;subst d;exact j _ _ l
 ·have hb:(u == p)=false:=by grind
  simp only [List.lookup,hb] at d
  by_cases hut:u=t
  ·subst hut;rw [n] at d;simp at d;subst d;subst o;exact j _ _ k
  ·refine j _ _ ?_
   have f:∀ A:cA,D2p E t p A=true→(A++E).lookup u=some x:=by
    intro A
    induction A with
    | nil=>grind
    | cons q A ih =>
     obtain ⟨u',r⟩:=q
     intro h
     simp only [D2p,Bool.and_eq_true,Bool.or_eq_true,beq_iff_eq,Bool.not_eq_true'] at h
     grind[C2f]
   grind[List.take_append_drop]
theorem I1 (c t p:Nat) (k:g=b) (hΦ:A7 Φ' Φ) (hL:List.Sublist L L') (hR:R.drop c=E) (i:D2p E t p (R.take c)=true) (j:E.lookup t=some (.bool g)) (e:R.lookup t=some (.bool b)) (f:R.lookup p=some v):JQ n X (fun a w=>St n X ((p,v)::E) L Φ a w) R L' Φ' :=
 fun _ _ d=>⟨d.size,d.defers,F0v c t p k hR i j e f d.has,(d.world.sub hL).foll hΦ⟩
theorem G5t (c t p:Nat) (j:g=b) (hR:R.drop c=E) (h:D2p E t p (R.take c)=true) (i:E.lookup t=some (.bool g)) (d:R.lookup t=some (.bool b)) (f:R.lookup p=some v):JQ n X (fun a _=>a.tmps.size=n∧a.defers=X.marks∧Has a ((p,v)::E)) R L Φ :=
 fun _ _ e=>⟨e.size,e.defers,F0v c t p j hR h i d f e.has⟩
theorem sr (m:Nat) (b:ops.size=m) (h:JI P n X ops 0 m (fun a w=>y.wpIn (FW X.rho) 0 P Q a w) (Exit.then (fun a w=>y.wpIn (FW X.rho) 0 P Q a w) Q) E L Φ):J P n X (.seq (.region id ops false) y) Q E L Φ:=A3 (A0 m b h)
theorem sd (m:Nat) (c:P.follows .mixedOrders=true) (d:Region.lexB .any ops=true) (b:ops.size=m) (h:JD P n X ops 0 m (fun a w=>y.wpIn (FW X.rho) 0 P Q a w) E L Φ):J P n X (.seq (.region id ops true) y) Q E L Φ:=A3 (G2k m c d b h)
theorem ie (h:J P n X y Q E L Φ) {Q':Exit→Act→World→Prop}:JI P n X ops i 0 (fun a w=>y.wpIn (FW X.rho) 0 P Q a w) Q' E L Φ:=A1 h
theorem de (h:J P n X y Q E L Φ):JD P n X ops i 0 (fun a w=>y.wpIn (FW X.rho) 0 P Q a w) E L Φ:=E3b h
theorem nx (h:J P n X y Q E L Φ):JQ n X (fun a w=>y.wpIn (FW X.rho) 0 P Q a w) E L Φ:=h
end
end
section
variable {α:Type} {a b:Array Bool} {d e i id:Nat} {listed:Array Bool} {o:Oper} {v:Value} {val:α→Value} {w:World} {y:Code}
section
variable {P:Program} {ops:Array Oper} {Q:Exit→Act→World→Prop} {S:World→Prop} {ρ:Option Nat}
def A7z (ops:Array Oper):Bool:=ops.all fun o=>!C8y o.op
theorem D5x (h:A7z ops=true) (c:ops[i]?=some o):C8y o.op=false:=by
 obtain ⟨a,b⟩:=Array.getElem?_eq_some_iff.1 c
 have:=(Array.all_eq_true.1 h) i a
 grind
def AH (ρ:Option Nat) (P:Program) (ops:Array Oper) (Q:Exit→Act→World→Prop) (S:Array Bool→World→Prop):Nat→Array Bool→Act→World→Prop
 | 0,listed,a,w=>Region.ready .any ops listed=[]∧Q .normal a w
 | fuel+1,listed,a,w =>
  (Region.ready .any ops listed=[]→Q .normal a w) ∧
  ∀ i ∈ Region.ready .any ops listed,wpOpIn (FW ρ) 0 P ops Q i (fun b w'=>S (listed.setIfInBounds i true) w'∧AH ρ P ops Q S fuel (listed.setIfInBounds i true) b w') a w
theorem C9b {K K':Act→World→Prop} {a:Act} (h:∀ a w,K a w→K' a w) (b:wpOpIn (FW ρ) 0 P ops Q i K a w):wpOpIn (FW ρ) 0 P ops Q i K' a w:=by
 unfold wpOpIn at *
 split
 ·grind
 ·rename_i o d
  simp only [d] at b
  split
  ·rename_i c;simp only [c,if_true] at b;exact ⟨b.1,D2d h (fun _ _ _ h=>h) (fun h=>h) b.2⟩
  grind
theorem F4h {S:Array Bool→World→Prop}:∀ (b:Nat) (c:Array Bool) (a:Act) (w:World),AH ρ P ops Q S b c a w→wpAnyIn (FW ρ) 0 P .any ops Q b c a w
 | 0,_,_,_,h=>h
 | b+1,_,_,_,h=>⟨h.1,fun i f=>C9b (fun e w' d=>F4h b _ e w' d.2) (h.2 i f)⟩
theorem E1l {a:Act} (c:A7z ops=true) (d:ops[i]?=some o) (f:YieldsIf P ops S o v a)
  {K:Act→World→Prop} (g:S w) (h:K (a.put o.dst v) w):wpOpIn (FW ρ) 0 P ops Q i K a w:=by
 unfold wpOpIn
 simp only [d]
 rcases f with ⟨b,e⟩ | ⟨b,rfl⟩
 ·simp only [b,if_true]
  grind[B0w,D5x,Oper.wp,Oper.upon]
 ·simp only [b,Bool.false_eq_true,if_false];exact ⟨fun _ _=>trivial,h⟩
theorem E9g {j:Nat} {g oj:Oper} (a1:A7z ops=true) (hj:ops[j]?=some oj) (y:g.apart ops oj=true)
  (a0:∀ cs b,g.op≠.select cs b) (a2:∀ cs b,oj.op≠.select cs b)
  (t:∀ c a w,Q (.panic c) (a.put g.dst v) w→Q (.panic c) a w) {K:Act→World→Prop} {a:Act}
  (i:YieldsIf P ops S g v a) (h:wpOpIn (FW ρ) 0 P ops Q j K (a.put g.dst v) w) :
  wpOpIn (FW ρ) 0 P ops Q j (fun a' w'=>YieldsIf P ops S g v a'∧K (a'.put g.dst v) w') a w:=by
 obtain ⟨h1,m,h3⟩:=Oper.apart_spec y
 have s:=D5x a1 hj
 have C5r:∀ (a:Act),YieldsIf P ops S g v a→∀ u,YieldsIf P ops S g v (a.put oj.dst u):=fun a i u =>
  i.of_same (execOp_put g a0 a oj.dst u h3) (wanted_put g a oj.dst u h3)
 have o:∀ d,YieldsIf P ops S g v {a with defers:=d::a.defers}:=fun d=>i.of_same Z Z
 unfold wpOpIn at *
 simp only [hj] at *
 rw [wanted_put oj a g.dst v h1] at h
 split
 ·rename_i z
  simp only [z,if_true] at h
  have q:∀ (b:Act),oj.semAt (FW ρ).round b.eval=execOp b.eval oj:=fun b=>Oper.semAt_eq _ _ _ (fun c hc=>by rw [hc] at s;cases s)
  refine ⟨fun _ _=>trivial,?_⟩
  obtain ⟨_,h⟩:=h
  rw [q] at h ⊢
  rw [execOp_put oj a2 a g.dst v h1] at h
  generalize (execOp a.eval oj).run P w=r at *
  cases r with
  | ok n w' =>
   cases n<;>simp only [Oper.uponIn] at h ⊢
   case value u=>exact ⟨C5r a i u,by rw [← Act.put_comm a v u m];exact h⟩
   case skip=>exact ⟨C5r a i _,by rw [← Act.put_comm a v undef m];exact h⟩
   case defer d =>
    refine ⟨C5r _ (o d) _,?_⟩
    rw [← Act.put_comm _ v undef m,← Act.put_defers]
    exact h
   case enter f args =>
    refine ⟨h.1,h.2.mono fun e p k=>?_⟩
    cases e with
    | returned u=>exact ⟨C5r a i u,by rw [← Act.put_comm a v u m];exact k⟩
    | panicked c=>exact t _ _ _ k
    | outgrown=>exact k
   case row row args=>exact ⟨h.1,h.2.mono fun u p k=>⟨C5r a i u,by rw [← Act.put_comm a v u m];exact k⟩⟩
   case round l f tmps assign body =>
    refine ⟨h.1,h.2.mono fun e p k=>?_⟩
    cases e with
    | returned u=>exact ⟨C5r a i u,by rw [← Act.put_comm a v u m];exact k⟩
    | panicked c=>exact t _ _ _ k
    | outgrown=>exact k
  | halt x w' =>
   cases x<;>simp only [Oper.uponIn] at h ⊢
   case panic u=>exact t _ _ _ h
 ·rename_i z
  simp only [z] at h
  exact ⟨fun _ _=>trivial,C5r a i _,by rw [← Act.put_comm a v undef m];exact h.2⟩
def D0r (ops:Array Oper) (i e:Nat):Bool:=match ops[e]? with
 | some o=>o.after.any fun d=>d.on == i&&Region.binds .any d
 | none=>false
theorem D5m (b:D0r ops i e=true) (f:listed.getD i true=false):e ∉ Region.ready .any ops listed:=by
 intro j
 obtain ⟨_,o,h,a⟩:=mem_ready.1 j
 unfold D0r at b
 grind
theorem F4a {S:Array Bool→World→Prop} {u:Oper} (z:A7z ops=true) (hi:ops[i]?=some u) (r:∀ (j:Nat) (o:Oper) cs b,ops[j]?=some o→o.op≠.select cs b)
  (hQ:∀ c a w,Q (.panic c) (a.put u.dst v) w→Q (.panic c) a w) (Y:World→Prop) (s:∀ (d:Array Bool) w,S (d.setIfInBounds i true) w ↔ S d w) (hY:∀ d:Array Bool,(∀ e,D0r ops i e=true→d.getD e false=false)→∀ w,S d w→Y w) :
  ∀ (g:Nat) (d:Array Bool) (a:Act) (w:World),
   (∀ j x,ops[j]?=some x→j≠i→d.getD j true=false→(∀ e ∈ x.after,Region.binds .any e=true→e.on≠i)→u.apart ops x=true) →
   (∀ e,D0r ops i e=true→d.getD e false=false) →
   i ∈ Region.ready .any ops d→YieldsIf P ops Y u v a→S d w →
   AH ρ P ops Q S g (d.setIfInBounds i true) (a.put u.dst v) w→AH ρ P ops Q S (g+1) d a w:=by
 intro g
 induction g with
 | zero =>
  intro d a w _ f hr hy hS H
  refine ⟨fun h=>(by grind),fun j hj=>?_⟩
  by_cases hji:j=i
  ·grind[E1l]
  ·have:=ready_mono hj hji
   rw [H.1] at this
   cases this
 | succ g ih =>
  intro d a w m f hr hy hS H
  refine ⟨fun h=>(by rw [h] at hr;cases hr),fun j hj=>?_⟩
  by_cases hji:j=i
  ·subst hji;exact E1l z hi hy (hY _ f _ hS) ⟨(s _ _).2 hS,H⟩
  ·have h1:=H.2 j (ready_mono hj hji)
   obtain ⟨q,x,t,a4⟩:=mem_ready.1 hj
   have l:=(mem_ready.1 hr).1
   have a2:∀ e ∈ x.after,Region.binds .any e=true→e.on≠i:=fun e he hb ah=>by
    have h1:=a4 e he hb
    rw [ah] at h1
    rcases Nat.lt_or_ge i d.size with h' | h'
    ·simp [h'] at l h1;rw [l] at h1;cases h1
    ·simp [Array.getElem?_eq_none h'] at l
   have h2:=E9g z t (m j x t hji q a2) (fun cs b=>r i u cs b hi) (fun cs b=>r j x cs b t) hQ hy h1
   have n:∀ k ok,ops[k]?=some ok→k≠i→(d.setIfInBounds j true).getD k true=false →
     (∀ e ∈ ok.after,Region.binds .any e=true→e.on≠i)→u.apart ops ok=true:=fun k ok hk ac a3 a9=>by
    refine m k ok hk ac ?_ a9
    by_cases hjk:j=k
    ·subst hjk;exact q
    ·rw [getD_set_ne true hjk] at a3;exact a3
   have p:∀ e,D0r ops i e=true→(d.setIfInBounds j true).getD e false=false:=fun e he=>by
    by_cases hje:j=e
    ·subst hje;exact absurd hj (D5m he l)
    ·rw [getD_set_ne false hje];exact f e he
   refine C9b (fun a' w' h3=>?_) h2
   obtain ⟨y,hs,hh⟩:=h3
   rw [Array.setIfInBounds_comm _ _ (Ne.symm hji)] at hs hh
   have a1:=(s _ _).1 hs
   exact ⟨a1,ih (d.setIfInBounds j true) a' w' n p (ready_mono hr (Ne.symm hji)) y a1 hh⟩
end
section
variable {P:Program} {n:Nat} {X:Cx} {K:Act→World→Prop} {Q:Exit→Act→World→Prop} {E E':cA} {L L' Ls:Own} {Φ Φ' Φs:List Pers}
def oN (K:Act→World→Prop):Exit→Act→World→Prop
 | .normal,a,w=>K a w
 | _,_,_=>False
abbrev A2q:=List (Nat×Own)
def A2q.at (b:A2q) (a:Array Bool):Own:=((b.filter fun p=>!(a.getD p.1 false)).map (·.2)).flatten
def A2q.of (a:A2q) (ops:Array Oper) (i:Nat):Own:=((a.filter fun p=>D0r ops i p.1||!(Nat.blt p.1 ops.size)).map (·.2)).flatten
theorem D2e {l b:List (List α)} (h:l.Sublist b):l.flatten.Sublist b.flatten:=by induction h<;>grind
theorem D4q {p q:α→Bool}:∀ (l:List α),(∀ x ∈ l,p x=true→q x=true)→(l.filter p).Sublist (l.filter q)
 | [],_=>List.Sublist.slnil
 | x::l,h=>by
  have a:=D4q l fun y b=>h y (List.mem_cons_of_mem _ b)
  rw [List.filter_cons,List.filter_cons]
  by_cases hp:p x=true
  ·rw [if_pos hp,if_pos (h x jU hp)];exact a.cons_cons x
  ·rw [if_neg hp]
   split
   ·exact a.cons x
   ·exact a
theorem A2q.of_at {b:A2q} {ops:Array Oper} (f:a.size≤ops.size) (h:∀ e,D0r ops i e=true→a.getD e false=false):(b.of ops i).Sublist (b.at a):=by
 refine D2e ((D4q _ fun x _ c=>?_).map _)
 simp only [Bool.or_eq_true,Bool.not_eq_true'] at c ⊢
 grind[Nat.ble_eq_true_of_le,Nat.blt]
theorem A2q.at_set {a:A2q} (h:a.all (fun p=>!(p.1 == i))=true):a.at (listed.setIfInBounds i true)=a.at listed:=by
 unfold A2q.at
 congr 2
 refine List.filter_congr fun x c=>?_
 have:=List.all_eq_true.1 h x c
 have b:i≠x.1:=by grind
 simp_all
structure JH (P:Program) (n:Nat) (X:Cx) (ops:Array Oper) (fuel:Nat) (listed:Array Bool) (K:Act→World→Prop) (held:A2q) (Φs:List Pers) (E:cA) (L:Own) (Φ:List Pers):Prop where
 go:A7z ops=true→Region.noSelect ops=true→listed.size=ops.size→(held.at listed).Sublist L→A7 Φ Φs→∀ a w,St n X E L Φ a w→AH X.rho P ops (oN K) (fun l w=>l.size=ops.size∧cG X (held.at l) Φs w) fuel listed a w
theorem F3y {ops:Array Oper} (m:Nat) (b:A2q) (Φs:List Pers) (d:P.follows .mixedOrders=true) (f:ops.size=m) (hb:(A7z ops&&Region.noSelect ops)=true) (hL:(b.at (Array.replicate m false)).Sublist L) (hΦ:A7 Φ Φs)
  (h:JH P n X ops m (Array.replicate m false) (Q .normal) b Φs E L Φ):J P n X (.region id ops true) Q E L Φ:=fun a w c=>by
 simp only [Bool.and_eq_true] at hb
 refine Code.wpIn_mono (Q:=oN (Q .normal)) (fun e a w q=>by cases e<;>first|exact q|exact q.elim) ?_
 refine wpIn_region_any d (F4h (S:=fun l w=>l.size=ops.size∧cG X (b.at l) Φs w) _ _ _ _ ?_)
 subst f
 exact h.go hb.1 hb.2 oom hL hΦ a _ ⟨c.size,c.defers,c.has,c.world.drawn _⟩
def B4r (ops:Array Oper) (b:A2q) (a:Array Bool) (i:Nat):Bool:=Region.free .any ops a i&&(Region.ready .any ops a).contains i&&(b.all (fun p=>!(p.1 == i)))&&(List.range ops.size).all fun e=>!(D0r ops i e)||!(a.getD e false)
theorem E4q {ops:Array Oper} {f:Nat} {d:A2q} (i:Nat) {Ls:Own} (p:ops[i]?=some o) (s:A1m n o.dst=true) (q:B4r ops d b i=true) (j:d.of ops i=Ls)
  (y:∀ a,Has a E→YieldsIf P ops (cG X Ls Φs) o v a) (h:JH P n X ops f (b.setIfInBounds i true) K d Φs (cA.put E o.dst v) L Φ):JH P n X ops (f+1) b K d Φs E L Φ :=
 ⟨fun h1 h2 hsz hL hΦ a w hs=>by
  simp only [B4r,Bool.and_eq_true] at q
  obtain ⟨⟨⟨u,t⟩,m⟩,z⟩:=q
  have g:∀ e,D0r ops i e=true→b.getD e false=false:=fun e r=>by
   grind
  refine F4a (Y:=cG X Ls Φs) h1 p (Region.noSelect_spec h2) (fun c a w hq=>hq) (fun l w=>by rw [A2q.at_set m];simp) (fun l x w k=>?_) f b a w (Region.free_spec p u) g (by simpa using t) (y a hs.has) ⟨hsz,(hs.world.sub hL).foll hΦ⟩ (h.go h1 h2 (by simpa using hsz) (by rw [A2q.at_set m];exact hL) hΦ _ w (hs.put s v hs.world))
  exact k.2.sub (j▸A2q.of_at (Nat.le_of_eq k.1) x)⟩
theorem F8x {ops:Array Oper} {c:A2q} (i:Nat) (f:ops[i]?=some o) (k:B3p ops o E=some false) (e:A1m n o.dst=true) (j:B4r ops c b i=true)
  (h:JH P n X ops d (b.setIfInBounds i true) K c Φs (cA.put E o.dst undef) L Φ):JH P n X ops (d+1) b K c Φs E L Φ :=
 E4q i f e j Z (fun a g=>.inr ⟨A6d g k,rfl⟩) h
theorem F0x {ops:Array Oper} {c:A2q} (i:Nat) (Ls:Own) (k:ops[i]?=some o) (p:B3p ops o E=some true) (g:A1m n o.dst=true) (m:B4r ops c b i=true) (e:c.of ops i=Ls)
  (l:J8 P X o E Ls Φs v) (h:JH P n X ops d (b.setIfInBounds i true) K c Φs (cA.put E o.dst v) L Φ):JH P n X ops (d+1) b K c Φs E L Φ :=
 E4q i k g m e (fun a f=>.inl ⟨A6d f p,fun w j=>l a w f j⟩) h
theorem F5y {ops:Array Oper} {c:A2q} (i:Nat) {L':α→Own} {Φ':α→List Pers} (m:ops[i]?=some o) (r:B3p ops o E=some true) (k:A1m n o.dst=true)
  (q:Tri P n X o E L Φ α val L' Φ') (f:∀ x,(c.at (b.setIfInBounds i true)).Sublist (L' x)) (hΦ':∀ x,A7 (Φ' x) Φs) (h:∀ x,JH P n X ops d (b.setIfInBounds i true) K c Φs (cA.put E o.dst (val x)) (L' x) (Φ' x)) :
  ∀ a w,St n X E L Φ a w→A7z ops=true→Region.noSelect ops=true→b.size=ops.size→wpOpIn (FW X.rho) 0 P ops (oN K) i (fun s w'=>((b.setIfInBounds i true).size=ops.size∧cG X (c.at (b.setIfInBounds i true)) Φs w')∧AH X.rho P ops (oN K) (fun l w=>l.size=ops.size∧cG X (c.at l) Φs w) d (b.setIfInBounds i true) s w') a w:=fun a w j t p g=>by
 unfold wpOpIn
 simp only [m]
 rw [if_pos (A6d j.has r)]
 exact q a w _ _ j fun x w' e=>⟨⟨by grind,(e.sub (f x)).foll (hΦ' x)⟩,(h x).go t p (by grind) (f x) (hΦ' x) _ _ (j.put k _ e)⟩
theorem G1d {ops:Array Oper} {c:A2q} (i:Nat) {L':α→Own} {Φ':α→List Pers} (l:ops[i]?=some o) (p:B3p ops o E=some true) (k:A1m n o.dst=true) (hr:Region.ready .any ops b=[i])
  (m:Tri P n X o E L Φ α val L' Φ') (e:∀ x,(c.at (b.setIfInBounds i true)).Sublist (L' x)) (hΦ':∀ x,A7 (Φ' x) Φs) (h:∀ x,JH P n X ops d (b.setIfInBounds i true) K c Φs (cA.put E o.dst (val x)) (L' x) (Φ' x)):JH P n X ops (d+1) b K c Φs E L Φ :=
 ⟨fun h1 h2 hsz hL hΦ a w hs=>by
  refine ⟨fun f=>(by grind),fun j g=>?_⟩
  rw [hr] at g
  obtain rfl:j=i:=by grind
  exact F5y j l p k m e hΦ' h a w hs h1 h2 hsz⟩
theorem E4k {ops:Array Oper} {c:A2q} (i k:Nat) (hr:Region.ready .any ops b=[i,k])
  (m:∀ a w,St n X E L Φ a w→A7z ops=true→Region.noSelect ops=true→b.size=ops.size→wpOpIn (FW X.rho) 0 P ops (oN K) i (fun f w'=>((b.setIfInBounds i true).size=ops.size∧cG X (c.at (b.setIfInBounds i true)) Φs w')∧AH X.rho P ops (oN K) (fun l w=>l.size=ops.size∧cG X (c.at l) Φs w) d (b.setIfInBounds i true) f w') a w)
  (o:∀ a w,St n X E L Φ a w→A7z ops=true→Region.noSelect ops=true→b.size=ops.size→wpOpIn (FW X.rho) 0 P ops (oN K) k (fun f w'=>((b.setIfInBounds k true).size=ops.size∧cG X (c.at (b.setIfInBounds k true)) Φs w')∧AH X.rho P ops (oN K) (fun l w=>l.size=ops.size∧cG X (c.at l) Φs w) d (b.setIfInBounds k true) f w') a w):JH P n X ops (d+1) b K c Φs E L Φ :=
 ⟨fun h1 h2 hsz hL hΦ a w hs=>by
  refine ⟨fun g=>(by grind),fun j e=>?_⟩
  rw [hr] at e
  simp only [List.mem_cons,List.not_mem_nil,or_false] at e
  rcases e with rfl | rfl
  all_goals grind⟩
theorem C5e {ops:Array Oper} {c:Nat} {d:A2q} (hr:Region.ready .any ops b=[]) (h:JQ n X K E L Φ):JH P n X ops c b K d Φs E L Φ :=
 ⟨fun _ _ _ _ _ a w g=>by
  cases c with
  | zero=>exact ⟨hr,h a w g⟩
  | succ f=>exact ⟨fun _=>h a w g,fun i e=>by grind⟩⟩
theorem G1t {ops:Array Oper} {c:Nat} {d:A2q} (hE:∀ a,Has a E→Has a E') (h:JH P n X ops c b K d Φs E' L Φ):JH P n X ops c b K d Φs E L Φ :=
 ⟨fun h1 h2 hsz hL hΦ a w hs=>h.go h1 h2 hsz hL hΦ a w ⟨hs.size,hs.defers,hE a hs.has,hs.world⟩⟩
def B8r (P:Program) (n:Nat) (ops:Array Oper) (a:A2q):List Nat→Array Bool→cA→Option (Array Bool×cA)
 | [],listed,E=>some (listed,E)
 | i::is,listed,E=>match ops[i]? with
  | some o=>if B4r ops a listed i then match B7t P n ops o E with
    | some E'=>B8r P n ops a is (listed.setIfInBounds i true) E'
    | none=>none
   else none
  | none=>none
theorem F5p {ops:Array Oper} {e:A2q}:∀ (is:List Nat) {d:Nat} {c b:Array Bool} {E R:cA},B8r P n ops e is c E=some (b,R)→JH P n X ops d b K e Φs R L Φ→JH P n X ops (is.length+d) c K e Φs E L Φ
 | [],d,c,b,E,R,h,k=>by
  simp only [B8r,Option.some.injEq,Prod.mk.injEq] at h
  obtain ⟨rfl,rfl⟩:=h
  simpa using k
 | i::is,d,c,b,E,R,h,k=>by
  unfold B8r at h
  rw [List.length_cons,Nat.add_right_comm]
  split at h
  ·rename_i o j
   split at h
   ·rename_i l
    split at h
    ·rename_i E1 f
     have m:=F5p is h k
     unfold B7t at f
     split at f
     ·rename_i hr g
      split at f
      ·rename_i v p
       simp only [Option.some.injEq] at f;subst f
       exact F0x i _ j hr g l Z (fun a w q _=>D6y p a w q) m
      ·cases f
     ·rename_i hr g
      simp only [Option.some.injEq] at f;subst f
      exact F8x i j hr g l m
     ·cases f
    ·cases h
   ·cases h
  ·cases h
def E2i (ops:Array Oper) (E a:cA):List Nat→Bool
 | []=>true
 | i::is=>(match (ops[i]?).bind (·.dst) with
  | some d=>C2f a d||!C2f E d
  | none=>true)&&E2i ops E a is
theorem D1t {ops:Array Oper} {b:A2q} {c:cA} {t:Nat} (E0:cA) (j:E0.lookup t=some v) (k:c.lookup t=none):∀ (is:List Nat) {l g:Array Bool} {E R:cA},E2i ops E0 c is=true→B8r P n ops b is l E=some (g,R)→E.lookup t=some v→R.lookup t=some v
 | [],l,g,E,R,_,h,he=>by simp only [B8r,Option.some.injEq,Prod.mk.injEq] at h;obtain ⟨_,rfl⟩:=h;exact he
 | i::is,l,g,E,R,hk,h,he=>by
  unfold B8r at h
  unfold E2i at hk
  simp only [Bool.and_eq_true] at hk
  split at h
  ·rename_i o m
   split at h
   ·split at h
    ·rename_i E1 a
     refine D1t E0 j k is hk.2 h ?_
     have f:o.dst≠some t:=by
      intro f
      have:=hk.1
      simp only [m,Option.bind_some,f,C2f,k,j] at this
      simp at this
     have put:∀ u,(cA.put E o.dst u).lookup t=some v:=by
      intro u
      cases hdst:o.dst with
      | none=>exact he
      | some d =>
       have:(t == d)=false:=by simp;intro e;exact f (by rw [hdst,e])
       simp only [cA.put,List.lookup,this];exact he
     unfold B7t at a
     split at a
     ·split at a
      ·simp only [Option.some.injEq] at a;subst a;exact put _
      ·cases a
     ·simp only [Option.some.injEq] at a;subst a;exact put _
     ·cases a
    ·cases h
   ·cases h
  ·cases h
def C4d (P:Program) (n:Nat) (ops:Array Oper) (c:A2q) (is:List Nat) (a:Array Bool) (E b:cA):Option (Array Bool×cA) :=
 if E2i ops E b is then match B8r P n ops c is a E with
  | some (l,R)=>match C5r R b with
   | some R'=>some (l,R')
   | none=>none
  | none=>none
 else none
theorem G4t {ops:Array Oper} {d:A2q} (is:List Nat) (f:Nat) {c:Array Bool} (b:Array Bool) (j:cA) (h:C4d P n ops d is c E j=some (b,j)) (g:JH P n X ops f b K d Φs (j++E) L Φ):JH P n X ops (is.length+f) c K d Φs E L Φ:=by
 unfold C4d at h
 split at h
 ·rename_i o
  split at h
  ·rename_i l R hR
   split at h
   ·rename_i R' i
    simp only [Option.some.injEq,Prod.mk.injEq] at h
    obtain ⟨rfl,rfl⟩:=h
    refine F5p is hR (G1t (fun a m t v e=>?_) g)
    rw [C0e] at e
    split at e
    ·rename_i u k
     exact (m.weaken (Q2 (C5f i))) t v (by grind)
    ·rename_i k
     exact m t v (D1t E e k is o hR e)
   ·cases h
  ·cases h
 ·cases h
theorem F9t {ops:Array Oper} {c:A2q} (i:Nat) (Ls:Own) (b:Array Bool) (j:ops[i]?=some o) (m:B3p ops o E=some true) (f:A1m n o.dst=true) (g:B4r ops c a i=true) (e:c.of ops i=Ls) (k:a.setIfInBounds i true=b)
  (l:J8 P X o E Ls Φs v) (h:JH P n X ops d b K c Φs (cA.put E o.dst v) L Φ):JH P n X ops (d+1) a K c Φs E L Φ:=by grind[F0x]
theorem hone {ops:Array Oper} {c:A2q} (i:Nat) {L':α→Own} {Φ':α→List Pers} (Lh:Own) (a:Array Bool) (g:ops[i]?=some o) (m:B3p ops o E=some true) (f:A1m n o.dst=true) (hr:Region.ready .any ops b=[i])
  (j:b.setIfInBounds i true=a) (k:c.at a=Lh) (l:Tri P n X o E L Φ α val L' Φ') (e:∀ x,Lh.Sublist (L' x)) (hΦ':∀ x,A7 (Φ' x) Φs) (h:∀ x,JH P n X ops d a K c Φs (cA.put E o.dst (val x)) (L' x) (Φ' x)):JH P n X ops (d+1) b K c Φs E L Φ:=by
 grind[G1d]
theorem sh {ops:Array Oper} (m:Nat) (b:A2q) (Φs:List Pers) (Lh:Own) (c:Array Bool) (d:P.follows .mixedOrders=true) (g:ops.size=m) (hb:(A7z ops&&Region.noSelect ops)=true) (e:Array.replicate m false=c) (f:b.at c=Lh) (hL:Lh.Sublist L) (hΦ:A7 Φ Φs)
  (h:JH P n X ops m c (fun a w=>y.wpIn (FW X.rho) 0 P Q a w) b Φs E L Φ):J P n X (.seq (.region id ops true) y) Q E L Φ:=by
 subst e f
 exact A3 (F3y m b Φs d g hb hL hΦ h)
theorem sh' {ops:Array Oper} (m:Nat) (a:A2q) (Φs:List Pers) (Lh:Own) (b:Array Bool) (c:P.follows .mixedOrders=true) (f:ops.size=m) (hb:(A7z ops&&Region.noSelect ops)=true) (d:Array.replicate m false=b) (e:a.at b=Lh) (hL:Lh.Sublist L) (hΦ:A7 Φ Φs)
  (h:JH P n X ops m b (Q .normal) a Φs E L Φ):J P n X (.region id ops true) Q E L Φ:=by
 grind[F3y]
theorem D6r {ops:Array Oper} {c:Nat} {d:A2q} (hr:Region.ready .any ops b=[]) (h:J P n X y Q E L Φ):JH P n X ops c b (fun a w=>y.wpIn (FW X.rho) 0 P Q a w) d Φs E L Φ:=C5e hr h
end
end
section
variable {T TT:Nat} {a:Addr} {b:Nat} {α:Type} {c:α→List Value} {cc:Nat} {e:TypeId} {f:α→List Value} {j:List Value} {k m:Nat} {o:Oper} {off:Nat} {post pre:Own} {q:Option Addr} {sz:Nat} {u:Value} {us:List Value} {v:α} {w:World} {x:Operand} {xs:List α} {y:Operand} {ys:List α}
section
variable {P:Program} {n:Nat} {X:Cx} {K:Act→World→Prop} {Q:Exit→Act→World→Prop} {E E':cA} {L L':Own} {Φ Φ':List Pers}
theorem cG.perm (h:cG X L Φ w) (b:L.Perm L'):cG X L' Φ w :=
 let ⟨p,q⟩:=h;⟨p,⟨q.facts,q.sub,q.le,q.dom,⟨fun e a=>q.own.1 e (b.symm.subset a),(b.map Prod.fst).nodup_iff.1 q.own.2⟩,fun e a=>q.may e (b.symm.subset a),q.kept,fun d c=>let ⟨h1,h2,h3,h4⟩:=q.res d c;⟨h1,h2,fun e a=>h3 e (b.symm.subset a),h4⟩⟩⟩
theorem D5n (a b c:List α):(a++(b++c)).Perm (b++(a++c)):=by
 rw [← List.append_assoc,← List.append_assoc]
 exact List.perm_append_comm.append_right c
theorem cG.turn {L0 L1:Own} {w':World} (h:cG X (pre++(L0++post)) Φ w) (j:KeptBut (L0.map Prod.fst) w w') (g:∀ e ∈ L1,w'.heap[e.1]?=some e.2∧(e.1 ∈ L0.map Prod.fst∨w.heap.size≤e.1)) (l:(L1.map Prod.fst).Nodup) :
  cG X (pre++(L1++post)) Φ w':=by
 obtain ⟨p,f⟩:=h
 have a:∀ b ∈ L0.map Prod.fst,p b=none:=fun b hb=>by
  obtain ⟨e,c,rfl⟩:=List.mem_map.1 hb
  exact (f.own.1 e (List.mem_append_right _ (List.mem_append_left _ c))).2
 have r:cG (cx w p (L0.map Prod.fst)) L1 [] w':=by
  refine ⟨p,⟨fun q n=>(by cases n),fun b o e=>?_,Hp.le_refl p,fun b hb=>.inl hb,⟨fun e c=>⟨(g e c).1,?_⟩,l⟩,fun e c=>(g e c).2,j,fun d k=>(by cases k)⟩⟩
  ·rw [j.block b (Hp.lt f.sub e) (fun m=>by grind)];exact f.sub b o e
  ·rcases (g e c).2 with i | i
   ·grind
   ·cases h3:p e.1 with
    | none=>rfl
    | some o=>have:=Hp.lt f.sub h3;omega
 have:=cG.call (L0:=L0) (L2:=pre++post) f (D5n _ _ _) r
 grind[perm,D5n]
structure VR where
 q:Option Nat
 k:Nat
 j:List Value
def va (q:Option Nat):Option Addr:=match q with | none=>none | some b=>some ⟨b,0,none⟩
def bT (sz n:Nat) (r:VR):Prop:=match r.q with
 | none=>n=0∧r.k=0
 | some _=>n * sz+r.j.length=r.k * sz∧n≤r.k∧r.k≤maxLen
def vo {α:Type} (c:α→List Value) (T:Nat) (r:VR) (xs:List α):Own:=match r.q with
 | none=>[]
 | some b=>[bx b (xs.flatMap c++r.j) T]
abbrev vv (r:VR) (n:Nat):Value:=.slice (va r.q) n r.k
def VR.nil:VR:=⟨none,0,[]⟩
theorem bT.nil:bT sz 0 VR.nil:=⟨rfl,rfl⟩
theorem bT.some {n:Nat} {r:VR} (h:bT sz n r) (a:0<n):∃ b,r.q=Option.some b:=by grind[bT]
theorem bT.cast {n:Nat} {r:VR} (h:bT sz n r) (a:n=m):bT sz m r:=a▸h
structure ApTy (P:Program) (T e sz by':Nat):Prop where
 ty:P.underlying T=some (.slice e)
 info:(P.info? e).map (fun i=>(i.size,i.bytes,i.zero.map (·.cells.size)))=some (sz,by',some sz)
 pos:Nat.blt 0 sz=true
theorem G8 (a:∀ x,(c x).length=sz):∀ xs:List α,(xs.flatMap c).length=xs.length * sz
 | []=>by simp
 | x::xs=>by rw [List.flatMap_cons,List.length_append,a,G8 a xs,List.length_cons,Nat.succ_mul];omega
theorem B8z (b:∀ x,(c x).all (·.oneCell')=true) (xs:List α):∀ u ∈ xs.flatMap c,u.oneCell'=true:=by grind
theorem D6l {e v ty:Nat} (hT:ApTy P T e sz v) (hf:∀ x,(f x).length=sz) (ax:∀ x,(f x).all (·.oneCell')=true) {r:VR} (hm:m=ys.length)
  (hw:cG X (pre++(vo f e r xs++post)) Φ w) (hq:V5 Φ (sl f (some a) ys)) (c:bT sz xs.length r) (hb:(xs.length+ys.length) * v≤140737488355328) (ar:xs.length+ys.length≤maxLen) :
  ∃ r' w',(Builtin.append_ #[T,T] ty #[vv r xs.length,.slice (some a) m cc]).run P w=.ok (vv r' (xs.length+ys.length)) w'∧bT sz (xs.length+ys.length) r'∧cG X (pre++(vo f e r' (xs++ys)++post)) Φ w':=by
 obtain ⟨i,hi,n⟩:=Option.map_eq_some_iff.1 hT.info
 simp only [Prod.mk.injEq] at n
 obtain ⟨h4,h5,h6⟩:=n
 obtain ⟨z,hz,h6⟩:=Option.map_eq_some_iff.1 h6
 obtain ⟨p,hp⟩:=hw
 have l:B0p p a (ys.flatMap f):=hq p hp.facts
 have a3:0<sz:=by simpa [Nat.blt_eq] using hT.pos
 have a1:w.ownsRow 0 e sz (vv r xs.length) xs.length (xs.flatMap f):=by
  refine ⟨G8 hf xs,?_⟩
  unfold bT at c
  split at c
  ·rename_i hq0
   refine .inl ⟨?_,c.1⟩
   unfold vv va
   rw [hq0,c.1,c.2]
  ·rename_i b hq0
   refine .inr ⟨b,r.k,(xs.flatMap f++r.j).toArray,?_,Nat.zero_le _,?_,c.2.1,c.2.2,?_,?_⟩
   ·unfold vv va;rw [hq0]
   ·have:=hp.own.1 (bx b (xs.flatMap f++r.j) e) (List.mem_append_right _ (List.mem_append_left _ (by unfold vo;rw [hq0];simp)))
    exact this.1
   ·simp only [List.size_toArray,List.length_append,G8 hf];exact c.1
   ·rw [← G8 hf xs];simp
 obtain ⟨v',w',o,h,hg,a6,a0⟩:=run_append_own_at (P:=P) w 0 T ty e i z sz v hT.ty hi hz h4 h5 h6 a3 (vv r xs.length) xs.length (xs.flatMap f) a1 a m cc (ys.flatMap f)
  (by rw [G8 hf,hm]) (fun j u hj=>l.cell hp.sub hj) (B8z ax ys) (by rw [hm];exact ar) (by rw [hm];exact hb) (Nat.zero_le _)
 rw [hm] at h a6
 have d:(vo f e r xs).map Prod.fst=r.q.toList:=by unfold vo;split<;>simp_all
 have s:(vv r xs.length).ownBlock=r.q:=by unfold vv va Value.ownBlock;cases r.q<;>rfl
 have hk:KeptBut ((vo f e r xs).map Prod.fst) w w':=⟨hg.os,hg.tape,hg.output,hg.size,fun k hk an=>hg.block k hk (fun e'=>an (by rw [d];rw [s] at e';rw [← e'];simp))⟩
 obtain ⟨az,av⟩:=h
 rcases av with ⟨rfl,a7⟩ | ⟨g,cap,cur,rfl,_,t,a8,a4,au,y⟩
 ·refine ⟨VR.nil,w',?_,?_,?_⟩
  ·rw [o,a7];rfl
  ·rw [a7];exact bT.nil
  ·exact cG.turn ⟨p,hp⟩ hk (by intro e he;cases he) List.nodup_nil
 ·refine ⟨⟨some g,cap,cur.toList.drop ((xs.length+ys.length) * sz)⟩,w',?_,?_,?_⟩
  ·rw [o];rfl
  ·refine ⟨?_,a8,a4⟩
   have:(xs.length+ys.length) * sz≤cap * sz:=Nat.mul_le_mul_right _ a8
   simp only [List.length_drop,Array.length_toList,au];omega
  ·refine cG.turn ⟨p,hp⟩ hk (L1:=[bx g ((xs++ys).flatMap f++cur.toList.drop ((xs.length+ys.length) * sz)) e]) ?_ oom
   intro e' he
   obtain rfl:e'=_:=by simpa using he
   refine ⟨?_,?_⟩
   ·simp only
    rw [t,← List.append_assoc,← y,List.take_append_drop]
   ·rcases a0 with h1 | h1
    ·refine .inl ?_
     rw [d]
     rw [s] at h1
     rw [← h1];simp [Value.ownBlock]
    ·simp [Value.ownBlock] at h1
     exact .inr (by simp only;omega)
theorem E7z {c:Call} {e g:Nat} {r:VR} (hT:ApTy P T e sz g) (hf:∀ x,(f x).length=sz) (s:∀ x,(f x).all (·.oneCell')=true)
  (u:o.op=.call c) (hc:c.callee=.builtin .append) (j:c.args=#[x,y]) (k:c.argTypes=#[T,T]) (hx:ev E x=some (vv r xs.length)) (hy:ev E y=some (.slice (some a) m cc)) (hm:m=ys.length) (hL:L=pre++(vo f e r xs++post))
  (z:V5 Φ (sl f (some a) ys)) (q:bT sz xs.length r) (hb:(xs.length+ys.length) * g≤140737488355328) (l:xs.length+ys.length≤9223372036854775807) :
  Tri P n X o E L Φ {b:VR // bT sz (xs.length+ys.length) b} (fun b=>vv b.1 (xs.length+ys.length)) (fun b=>pre++(vo f e b.1 (xs++ys)++post)) (fun _=>Φ):=by
 intro ac w K Q p v
 have t:=p.world
 rw [hL] at t
 obtain ⟨b,w',h,d,i⟩:=D6l (ty:=o.type) hT hf s (cc:=cc) hm t z q hb l
 refine B0w (by rw [u];rfl) ?_
 unfold Oper.wp
 rw [show (execOp ac.eval o).run P w=.ok (.value (vv b (xs.length+ys.length))) w' by
  simp [execOp,u,resolve,hc,j,k,D5 p.has hx,D5 p.has hy,invoke,builtin,h]]
 exact v ⟨b,d⟩ w' i
theorem E9s {T:TypeId} {a:Nat} (b:P.underlying T=some (.slice e)) (d:Nat) (w:World):(Op.equalIn (d+1) T (.slice q a k) (.slice none 0 0)).run P w=.ok q.isNone w:=by
 unfold Op.equalIn
 rw [Sem.run_bind,run_underlying b]
 cases q<;>rfl
theorem F9i {T U:TypeId} {a:Nat} (f:P.underlying T=some (.slice e)) (c:o.op=.binOp .eql T x y U) (g:ev E x=some (.slice q a k)) (d:ev E y=some (.slice none 0 0)):J8 P X o E L Φ (.bool q.isNone) :=
 .of_run fun h w b _=>by
  simp [execOp,c,D5 b g,D5 b d,eqGuard,binOp,Op.equal,Op.maxDepth,E9s f 9999]
theorem Z5 {e:Nat} {a cap:Nat} {m:Int} (h:SlTy P T e sz) (d:o.op=.indexAddr T x y)
  (i:ev E x=some (.slice (some ⟨b,0,none⟩) a cap)) (g:ev E y=some (.int .i64 m)) (k:Nat) (c:m=k) (f:k<a):J8 P X o E L Φ (.pointer (some ⟨b,k * sz,none⟩)):=by
 have:=F6b (X:=X) (L:=L) (Φ:=Φ) h d i g k c f
 rwa [A3j,Nat.zero_add] at this
theorem F1r (d:∀ x,(c x).length=sz) (a:xs[k]?=some v) {f:Nat} (b:(c v)[f]?=some u):(xs.flatMap c++j)[k * sz+f]?=some u:=by
 have:=B8p d a f u b
 rw [List.getElem?_append_left (List.getElem?_eq_some_iff.1 this).1];exact this
theorem Y2 (l:Ty P T 1 false) (m:∀ x,(c x).length=sz) (d:o.op=.load T x) (g:ev E x=some (.pointer (some ⟨b,off,none⟩))) (i:Nat)
  (hL:L[i]?=some (bx b (xs.flatMap c++j) TT)) (k f:Nat) (a:off=k * sz+f) (h:xs[k]?=some v) (e:(c v)[f]?=some u):J8 P X o E L Φ u :=
 B8 l d g i hL (by rw [a];exact F1r m h e)
theorem D2i (p:Ty P T m true) (r:∀ x,(c x).length=sz) (g:o.op=.load T x) (l:ev E x=some (.pointer (some ⟨b,off,none⟩))) (i:Nat)
  (hL:L[i]?=some (bx b (xs.flatMap c++j) TT)) (k f:Nat) (a:off=k * sz+f) (n:xs[k]?=some v) (h:((c v).drop f).take m=us) (e:us.length=m):J8 P X o E L Φ (.agg us.toArray):=by
 refine G6 p g l i hL ?_ e
 apply List.ext_getElem?
 intro t
 rw [List.getElem?_take,List.getElem?_drop]
 split
 ·rename_i d
  have q:us[t]?=((c v))[f+t]?:=by rw [← h,List.getElem?_take,if_pos d,List.getElem?_drop]
  obtain ⟨u,hu'⟩:∃ u,us[t]?=some u:=⟨us[t]'opx,by simp [e,d]⟩
  rw [hu',a,Nat.add_assoc]
  exact F1r r n (by rw [← q];exact hu')
 ·rename_i d
  rw [List.getElem?_eq_none opx]
theorem D8n (A R us:List Value) (f:Nat) (h:f+us.length≤A.length):A6k (A++R) us f=A6k A us f++R:=by
 unfold A6k
 rw [List.take_append_of_le_length opx,List.drop_append_of_le_length h]
 simp [List.append_assoc]
theorem D2k (d:∀ x,(c x).length=sz):∀ {xs:List α} {k:Nat} {v a:α} {us:List Value} {f:Nat},xs[k]?=some v→f+us.length≤sz→A6k (c v) us f=c a→∀ j:List Value,
  A6k (xs.flatMap c++j) us (k * sz+f)=(xs.set k a).flatMap c++j
 | [],k,v,a,us,f,h,_,_,_=>by cases h
 | x::xs,0,v,a,us,f,h,hl,hp,j=>by
  simp only [List.getElem?_cons_zero,Option.some.injEq] at h;subst h
  have b:=d x
  rw [List.set_cons_zero,List.flatMap_cons,List.flatMap_cons,← hp,Nat.zero_mul,Nat.zero_add,List.append_assoc,List.append_assoc]
  exact D8n _ _ _ _ opx
 | x::xs,k+1,v,a,us,f,h,hl,hp,j=>by
  simp only [List.getElem?_cons_succ] at h
  have g:=D2k d h hl hp j
  have b:=d x
  rw [List.set_cons_succ,List.flatMap_cons,List.flatMap_cons,List.append_assoc,List.append_assoc,← g]
  unfold A6k
  have e:(k+1) * sz+f=sz+(k * sz+f):=by rw [Nat.succ_mul];omega
  rw [e,List.take_append,List.drop_append,b,List.take_of_length_le opx,List.drop_eq_nil_of_le opx]
  rw [show sz+(k * sz+f) - sz=k * sz+f by omega,show sz+(k * sz+f)+us.length - sz=k * sz+f+us.length by omega]
  simp [List.append_assoc]
theorem A8t {agg:Bool} {v:Value} {u u':α} (q:Ty P T m agg) (h:∀ x,(c x).length=sz) (s:o.op=.store T x y) (w:ev E x=some (.pointer (some ⟨b,off,none⟩))) (t:ev E y=some v)
  (i:Nat) (hL:L[i]?=some (bx b (xs.flatMap c++j) TT)) (hv:v.cells=us.toArray) (z:us.length=m) (hb:us.all (·.oneCell')=true) (k f:Nat) (a:off=k * sz+f) (e:xs[k]?=some u) (r:A6k (c u) us f=c u') (d:Nat.ble (f+m) sz=true) :
  Tri P n X o E L Φ Unit (fun _=>undef) (fun _=>L.set i (bx b ((xs.set k u').flatMap c++j) TT)) (fun _=>Φ):=by
 have g:f+m≤sz:=Nat.le_of_ble_eq_true d
 refine O9 q s w t i hL hv z hb (by rw [a];exact D2k h e opx r j) ?_
 have p:=(List.getElem?_eq_some_iff.1 e).1
 have l:(k+1) * sz≤xs.length * sz:=Nat.mul_le_mul_right _ p
 rw [Nat.succ_mul] at l
 refine Nat.ble_eq_true_of_le ?_
 rw [List.length_append,G8 h];omega
theorem D4c (h:V5 Φ (sl c q xs)) (k:Nat):V5 Φ (sl c q (xs.take k)):=fun p d=>by
 have:=h p d
 cases q with
 | none=>simp only [sl] at this ⊢;rw [this];simp
 | some a =>
  obtain g | ⟨h0,cc,T,fr,h1,h2⟩:=this
  ·exact .inl (List.flatMap_eq_nil_iff.2 fun x f=>List.flatMap_eq_nil_iff.1 g x (List.mem_of_mem_take f))
  refine .inr ⟨h0,cc,T,fr,h1,fun j v b=>h2 j v ?_⟩
  have e:xs.flatMap c=(xs.take k).flatMap c++(xs.drop k).flatMap c:=by rw [← List.flatMap_append,List.take_append_drop]
  rw [e,List.getElem?_append_left (List.getElem?_eq_some_iff.1 b).1];exact b
end
end
section
variable {R:Own→List Pers→Prop} {X':Cx} {f:Func} {v:Value} {Φ0:List Pers}
section
variable {P:Program} {n:Nat} {X:Cx} {K:Act→World→Prop} {Q:Exit→Act→World→Prop} {E E':cA} {L L':Own} {Φ Φ':List Pers}
theorem mc (cs:List Own) (m:List Bool) (a:L=cs.flatten) (b:(F7b m cs).flatten=L'):L'.Sublist L:=by grind[D2e,C9a]
theorem I8 (cs:List Own) (is:List Nat) (m:Nat) (b:cs.length=m) (h:is.Perm (List.range m)) (d:L=cs.flatten) (a:List Own) (c:is.map (cs.getD · [])=a) (f:a.flatten=L'):L.Perm L':=by
 subst b d c f
 have e:cs=(List.range cs.length).map (cs.getD · []):=by
  apply List.ext_getElem?
  grind
 have:=((h.map (cs.getD · [])).symm).flatten
 grind
end
def B8d (P:Program) (l:Nat) (v:Value) (L:Own) (Φ:List Pers) (post:Bool→Own→List Pers→Prop):Prop :=
 ∀ (w:World) (h:Hp),(∀ q ∈ Φ,q.p h)→h.sub w→A5x L h w →
  YieldAt Fence.wide 0 P l #[v] w fun e w'=>∃ b L' Φ',e=.returned (.bool b)∧post b L' Φ'∧cG (cx w h (L.map Prod.fst)) L' Φ' w'
def C9v (P:Program) (gf:FuncId) (a:List Value) (Φ0:List Pers) {β:Type} (enc:β→Value) (xs:List β):Prop :=
 HasBody P gf∧∀ (l:Nat) (w:World) (h:Hp) (I:List β→Own→List Pers→Prop) (Ix:Own→List Pers→Prop) (L:Own) (Φ:List Pers),I xs L Φ→(∀ q ∈ Φ0,q.p h)→(∀ q ∈ Φ,q.p h)→h.sub w→A5x L h w →
  (∀ x rest L Φ,I (x::rest) L Φ→B8d P l (enc x) L Φ fun b L' Φ'=>if b then I rest L' Φ' else Ix L' Φ') →
  Calls P gf (#[.func (.yield l) #[] #[]]++a.toArray) w fun e w'=>(∃ v,e=.returned v)∧∃ L' Φ',(I [] L' Φ'∨Ix L' Φ')∧cG (cx w h (L.map Prod.fst)) L' Φ' w'
section
variable {P:Program} {n:Nat} {X:Cx} {K:Act→World→Prop} {Q:Exit→Act→World→Prop} {E E':cA} {L L':Own} {Φ Φ':List Pers}
def E1b (P:Program) (X:Cx) (a:Func) (R:Own→List Pers→Prop):Exit→Act→World→Prop :=
 bodyPostM (FW none) 0 P a fun e w'=>(∃ v,e=.returned v)∧∃ L' Φ',R L' Φ'∧cG X L' Φ' w'
theorem E0c {a:Act} {w:World} {j:Func} (hX:X'=X.wd X'.D) (c:X=X.wd []) (b:X.rho=none) (g:(X'.D.map Prod.fst).Nodup∧∀ d ∈ X'.D,d.2=.deferred (some [])) (hr:Res P n X j E L Φ v) (hR:R L' Φ') (hL:L'.Sublist L) (hΦ:A7 Φ Φ')
  (i:St n X' E L Φ a w):LeavesInM (FW none) 0 P j a.tmps (fun e w'=>(∃ v,e=.returned v)∧∃ L' Φ',R L' Φ'∧cG X L' Φ' w') a.defers .returning w:=by
 have k:X'.marks=X'.D.map (C3c ·.1):=by grind[Cx.marks,Cx.wd]
 rw [i.defers,k]
 refine B6l (X:=X) (L:=L) (Φ:=Φ) X'.D g.1 g.2 w (hX▸i.world) fun w' f=>⟨v,?_,⟨v,rfl⟩,L',Φ',hR,?_⟩
 ·rw [c] at hr
  exact hr {a with defers:=[]} w' ⟨i.size,by grind[Cx.marks,Cx.wd],i.has,f⟩
 ·rw [c];exact (f.sub hL).foll hΦ
theorem B6z (hX:X'=X.wd X'.D) (b:X.rho=none∧X.D=[]) (c:(X'.D.map Prod.fst).Nodup∧∀ d ∈ X'.D,d.2=.deferred (some [])) (hr:Res P n X f E L Φ v) (hR:R L' Φ') (hL:L'.Sublist L) (hΦ:A7 Φ Φ') :
  JQ n X' (E1b P X f R .ret) E L Φ:=fun a w i=>E0c hX (by obtain ⟨j,k,M,r,D⟩:=X;obtain ⟨g,e⟩:=b;simp only at g e;subst g e;rfl) b.1 c hr hR hL hΦ i
theorem A0y (hX:X'=X.wd X'.D) (b:X.rho=none∧X.D=[]) (c:(X'.D.map Prod.fst).Nodup∧∀ d ∈ X'.D,d.2=.deferred (some [])) (hr:Res P n X f E L Φ v) (hR:R L' Φ') (hL:L'.Sublist L) (hΦ:A7 Φ Φ') :
  JQ n X' (E1b P X f R .normal) E L Φ:=fun a w i=>E0c hX (by obtain ⟨j,k,M,r,D⟩:=X;obtain ⟨g,e⟩:=b;simp only at g e;subst g e;rfl) b.1 c hr hR hL hΦ i
theorem C1b {args:List Value} {m:Nat} (c:Nat.ble args.length m=true) {E0:cA} (hE:R0 ((List.range args.length).zip args) E0):Has {tmps:=args.toArray++Array.replicate (m - args.toArray.size) undef,defers:=[]} E0:=by
 have f:args.length≤m:=Nat.le_of_ble_eq_true c
 have d:Has {tmps:=args.toArray++Array.replicate (m - args.toArray.size) undef,defers:=[]} ((List.range args.length).zip args):=by
  intro t v e
  have h:∀ (xs:List Value) (k:Nat),((List.range' k xs.length).zip xs).lookup t=some v→k≤t∧xs[t - k]?=some v:=by
   intro xs
   induction xs with
   | nil=>simp
   | cons y ys ih =>
    grind[List.range'_succ,List.zip_cons_cons]
  grind[List.range_eq_range']
 exact d.weaken (Q2 hE)
theorem E0q {gf:FuncId} {g:Func} {c:Code} {a:List Value} {β:Type} {enc:β→Value} {xs:List β}
  (m : P.funcs[gf]? = some g) (hb : g.body = some c) (k : (g.name == "runtime.NumGoroutine") = false) (r : g.ntmps = n) (j : Nat.ble (a.length + 1) n = true) (E0 : Nat → cA) (hE : ∀ l, R0 ((List.range (a.length + 1)).zip (.func (.yield l) #[] #[] :: a)) (E0 l))
  (h:∀ (X:Cx) (l:Nat) (I:List β→Own→List Pers→Prop) (Ix:Own→List Pers→Prop) (L:Own) (Φ:List Pers),X.M=L.map Prod.fst→X.rho=none→X.D=[]→I xs L Φ →
   (∀ x rest L Φ,I (x::rest) L Φ→B8d P l (enc x) L Φ fun b L' Φ'=>if b then I rest L' Φ' else Ix L' Φ')→J P n X c (E1b P X g fun L' Φ'=>I [] L' Φ'∨Ix L' Φ') (E0 l) (L++[]) (Φ0++Φ)):C9v P gf a Φ0 enc xs:=by
 refine ⟨⟨by grind⟩,fun l w p I Ix L Φ hI hΦ0 hΦ hs ho hy=>?_⟩
 have f:(#[.func (.yield l) #[] #[]]++a.toArray:Array Value)=(Value.func (.yield l) #[] #[]::a).toArray:=by simp
 rw [f]
 simp only [List.append_nil] at h
 refine (callsIn_wide (n:=0)).1 (callsIn_of_wp_marks (F:=Fence.wide) m hb trivial (h (cx w p (L.map Prod.fst)) l I Ix L Φ Z Z Z hI hy _ w ⟨?_,rfl,?_,p,⟨?_,hs,Hp.le_refl p,fun b hb=>.inl hb,ho,fun e t=>.inl (List.mem_map_of_mem t),KeptBut.refl _ w,fun d s=>(by cases s)⟩⟩))
 ·simp_all
 all_goals grind[C1b]
theorem A6x {o:Oper} {c:Call} {y:Operand} {l:Nat} {L0 L2:Own} {post:Bool→Own→List Pers→Prop} (hy:B8d P l v L0 Φ0 post)
  (u:o.op=.call c) (r:c.callee=.value y) (hf:ev E y=some (.func (.yield l) #[] #[])) (j:c.args.toList.mapM (ev E)=some [v]) (hΦ:A7 Φ Φ0) (hL:L.Perm (L0++L2)) :
  Tri P n X o E L Φ {σ:Bool×Own×List Pers // post σ.1 σ.2.1 σ.2.2} (fun σ=>.bool σ.1.1) (fun σ=>σ.1.2.1++L2) (fun σ=>σ.1.2.2++Φ):=by
 intro a w K Q t z
 obtain ⟨p,q⟩:=t.world
 have m:A5x (L0++L2) p w:=⟨fun e he=>q.own.1 e (hL.symm.subset he),(hL.map Prod.fst).nodup_iff.1 q.own.2⟩
 obtain ⟨x,i,d,g,s,f⟩:=hy w p (hΦ p q.facts) q.sub (m.sub (List.sublist_append_left _ _))
 have hr:(execOp a.eval o).run P w=.ok (.round l x i d g) w:=by
  simp [execOp,u,resolve,r,D5 t.has hf,Deferred.ofValue,B5l t.has j,invoke,s]
 refine ⟨fun _ _=>trivial,?_⟩
 rw [Oper.semAt_eq _ _ _ (fun c r=>by grind),hr]
 refine ⟨B0x,?_⟩
 have hR:RoundIn (FW X.rho) 0 P l x i d g w _:=f
 refine hR.mono fun e w' hx=>?_
 obtain ⟨b,L',Φ',rfl,k,hw⟩:=hx
 exact z ⟨(b,L',Φ'),k⟩ w' (cG.call q hL hw)
end
end
section
variable {d:Nat} {ds:List (Nat×Obj)} {γ β:Type} {fx:β→γ→List Pers} {g:Operand} {gf:FuncId} {o:Obj} {ok:β→γ→Prop} {ps:Array Tmp} {vs:β→γ→List Value} {w:World} {xs:List β} {Φ0:List Pers} {σ:Type}
section
variable {P:Program} {n:Nat} {X:Cx} {K:Act→World→Prop} {Q:Exit→Act→World→Prop} {E E':cA} {L L':Own} {Φ Φ':List Pers}
theorem cG.reput {o':Obj} (j:d ∉ ds.map Prod.fst) (h:cG (X.wd ((d,o)::ds)) L Φ w):cG (X.wd ((d,o')::ds)) L Φ (w.putObj d o'):=by
 have x:=cG.take j o' h
 obtain ⟨t,a⟩:=h
 obtain ⟨v,l,n,c⟩:=a.res (d,o) jU
 have g:=(Array.getElem?_eq_some_iff.1 v).1
 refine ⟨t,⟨a.facts,fun k u e=>?_,a.le,a.dom,⟨fun e i=>⟨?_,(a.own.1 e i).2⟩,a.own.2⟩,a.may,⟨a.kept.os,a.kept.tape,a.kept.output,?_,fun k q p=>?_⟩,fun m b=>?_⟩⟩
 ·have:k≠d:=fun f=>by grind
  rw [World.putObj_heap_other this];exact a.sub k u e
 ·rw [World.putObj_heap_other (n e i)];exact (a.own.1 e i).1
 ·rw [World.putObj_size];exact a.kept.size
 ·have:k≠d:=fun f=>by
   subst f
   rcases c with c | c
   ·have:X.w0.heap.size≤k:=c
    have:k<X.w0.heap.size:=q
    omega
   ·exact p c
  rw [World.putObj_heap_other this];exact a.kept.block k q p
 ·rcases List.mem_cons.1 b with rfl | b
  ·exact ⟨World.putObj_heap_same g,l,n,c⟩
  ·have:m.1≠d:=fun f=>j (f▸List.mem_map_of_mem b)
   obtain ⟨r,s⟩:=a.res m (List.mem_cons_of_mem _ b)
   exact ⟨by grind[World.putObj_heap_other],s⟩
theorem cG.unres {i:World} {j:Hp} {M:List Nat} {r:Option Nat} (k:(ds.map Prod.fst).Nodup) (h:cG ⟨i,j,M,r,ds⟩ L Φ w):cG (cx i j M) (ds++L) Φ w:=by
 obtain ⟨p,a⟩:=h
 refine ⟨p,⟨a.facts,a.sub,a.le,a.dom,⟨fun e f=>?_,?_⟩,fun e f=>?_,⟨a.kept.os,a.kept.tape,a.kept.output,a.kept.size,a.kept.block⟩,fun d g=>by cases g⟩⟩
 ·rcases List.mem_append.1 f with f | f
  ·exact ⟨(a.res e f).1,(a.res e f).2.1⟩
  ·exact a.own.1 e f
 ·rw [List.map_append,List.nodup_append]
  refine ⟨k,a.own.2,fun b hb c l=>?_⟩
  obtain ⟨d,g,rfl⟩:=List.mem_map.1 hb
  obtain ⟨e,f,rfl⟩:=List.mem_map.1 l
  exact fun h=>(a.res d g).2.2.1 e f h.symm
 ·rcases List.mem_append.1 f with f | f
  ·exact (a.res e f).2.2.2.symm
  ·exact a.may e f
theorem cG.reserve (h:cG X ((d,o)::L) Φ w):cG (X.wd ((d,o)::X.D)) L Φ w:=by
 obtain ⟨p,a⟩:=h
 refine ⟨p,⟨a.facts,a.sub,a.le,a.dom,a.own.sub (List.sublist_cons_self _ _),fun e c=>a.may e (List.mem_cons_of_mem _ c),⟨a.kept.os,a.kept.tape,a.kept.output,a.kept.size,a.kept.block⟩,fun e c=>?_⟩⟩
 rcases List.mem_cons.1 c with rfl | c
 ·have f:=a.own.1 (d,o) jU
  refine ⟨f.1,f.2,fun g b hE=>?_,(a.may (d,o) jU).symm⟩
  have:=a.own.2
  grind
 ·obtain ⟨k,j,l,i⟩:=a.res e c
  exact ⟨k,j,fun g b=>l g (List.mem_cons_of_mem _ b),i⟩
def RP (Y:Cx) {β σ:Type} (I:List β→σ→Prop) (Jx:Code→σ→Prop) (Lk:σ→Own) (Φk:σ→List Pers) (rest:List β):Exit→Act→World→Prop
 | .normal,_,w=>∃ s,I rest s∧cG Y (Lk s) (Φk s) w
 | .ret,_,w=>∃ s,Jx .ret s∧cG Y (Lk s) (Φk s) w
 | .exit id,_,w=>∃ s,Jx (.exit id) s∧cG Y (Lk s) (Φk s) w
 | _,_,_=>False
def ai (P:Program) (l:Nat) (vs:List Value) (L:Own) (Φ:List Pers) (post:Bool→Own→List Pers→Prop):Prop :=
 ∀ (w:World) (h:Hp),(∀ q ∈ Φ,q.p h)→h.sub w→A5x L h w →
  YieldAt Fence.wide 0 P l vs.toArray w fun e w'=>∃ b L' Φ',e=.returned (.bool b)∧post b L' Φ'∧cG (cx w h (L.map Prod.fst)) L' Φ' w'
def al (P:Program) (gf:FuncId) (a:List Value) (L1:Own) (Φ0:List Pers) {β γ:Type} (ok:β→γ→Prop) (vs:β→γ→List Value) (fx:β→γ→List Pers) (xs:List β):Prop :=
 HasBody P gf∧∀ (l:Nat) (w:World) (h:Hp) (I:List β→Own→List Pers→Prop) (Ix:Own→List Pers→Prop) (L:Own) (Φ:List Pers),I xs L Φ→(∀ q ∈ Φ0,q.p h)→(∀ q ∈ Φ,q.p h)→h.sub w→A5x (L1++L) h w →
  (∀ x rest L Φ y,ok x y→I (x::rest) L Φ→ai P l (vs x y) L (fx x y++Φ) fun b L' Φ'=>if b then I rest L' Φ' else Ix L' Φ') →
  Calls P gf (#[.func (.yield l) #[] #[]]++a.toArray) w fun e w'=>(∃ v,e=.returned v)∧∃ L' Φ',(I [] L' Φ'∨Ix L' Φ')∧cG (cx w h ((L1++L).map Prod.fst)) L' Φ' w'
def ao (E:cA) (l:List (Nat×Value)):cA:=l.foldl (fun E e=>(e.1,e.2)::E) E
theorem aj {pl:List Nat} {vs:List Value} {tm:Array Value}:(pl.toArray.zip vs.toArray).foldl (fun b (t,a)=>b.setIfInBounds t a) tm=(pl.zip vs).foldl (fun b e=>b.setIfInBounds e.1 e.2) tm:=by simp
theorem ad:∀ {l:List (Nat×Value)} {b:Array Value},(l.foldl (fun a e=>a.setIfInBounds e.1 e.2) b).size=b.size
 | [],_=>rfl
 | e::l,b=>(ad (l:=l)).trans oom
theorem ae {ds:List Deferred}:∀ (l:List (Nat×Value)) (a:Act) (E:cA),(∀ e ∈ l,e.1<a.tmps.size)→Has a E→Has {tmps:=l.foldl (fun tmps e=>tmps.setIfInBounds e.1 e.2) a.tmps,defers:=ds} (ao E l)
 | [],a,E,_,h=>fun t v e=>h t v e
 | e::l,a,E,hn,h=>ae l (a.put (some e.1) e.2) _ (fun x b=>by grind[Act.put_size]) (h.put (hn e jU) e.2)
theorem ab {assign body:Code} {lb:List Value}
  (ar:X.rho=none) (hg:ev E g=some (.func (.func gf) #[] lb.toArray)) {L1:Own} (az:al P gf lb L1 Φ0 ok vs fx xs) (hΦ0:A7 Φ Φ0) (pl:List Nat) (bc:ps=pl.toArray) (bd:∀ t ∈ pl,t<n) (b8:∀ x y,(vs x y).length=pl.length) (I:List β→σ→Prop) (Jx:Code→σ→Prop) (Lk:σ→Own) (Φk:σ→List Pers) (s0:σ) (h0:I xs s0) (hL:(Lk s0++L1).Sublist L) (hΦ:A7 Φ (Φk s0))
  (a8:∀ x rest s y,ok x y→I (x::rest) s→∀ (Y Y':Cx) (K:Act→World→Prop),Y.rho.isSome=true →
   (∀ E L Φ,J P n Y' body (RP Y' I Jx Lk Φk rest) E L Φ→JQ n Y K E L Φ)→J P n Y assign (Exit.then K (fun _ _ _=>False)) (ao E (pl.zip (vs x y))) (Lk s) (fx x y++Φk s))
  (a7:∀ d s,d ∉ X.D.map Prod.fst→I [] s→JQ n (X.wd ((d,.deferred (some []))::X.D)) (Q .normal) E (Lk s) (Φk s))
  (av:∀ d c s,d ∉ X.D.map Prod.fst→Jx c s→J P n (X.wd ((d,.deferred (some []))::X.D)) c Q E (Lk s) (Φk s)):J P n X (.rangeFunc g ps assign body) Q E L Φ:=by
 intro a w hs
 subst bc
 rw [ar]
 refine wpIn_rangeFunc ?_
 intro fn _
 obtain ⟨f,hrec⟩:∃ f:LoopState→Option Code→Loop,f=fun st pe=>{state:=st,pending:=pe,fn,tmps:=a.tmps,params:=pl.toArray,assign,body,defers:=w.heap.size}:=⟨_,rfl⟩
 have u:=run_enterLoop_outer (P:=P) (w:=w) fn a.tmps pl.toArray assign body
 rw [show ({state:=.ready,pending:=none,fn:=fn,tmps:=a.tmps,params:=pl.toArray,assign:=assign,body:=body,defers:=w.heap.size}:Loop)=f .ready none by rw [hrec]] at u
 obtain ⟨w1,hw1⟩:∃ w1,(w.alloc (.deferred (some []))).alloc (.loop (f .ready none))=w1:=⟨_,rfl⟩
 rw [hw1] at u
 refine ⟨w.heap.size+1,[C3c w.heap.size],w1,{target:=.fn (.func gf) lb.toArray,args:=#[.func (.yield (w.heap.size+1)) #[] #[]]},w1,gf,
  #[.func (.yield (w.heap.size+1)) #[] #[]]++lb.toArray,w1,u,?_,fun _ _=>trivial,?_,B0x,?_⟩
 ·simp only [resolve,D5 hs.has hg]
  simp [go_sem]
 ·simp [invoke,A3l az.1]
 ·-- the caller's state,the two blocks laid
  have au:cG X ((w.heap.size+1,.loop (f .ready none))::(w.heap.size,.deferred (some []))::(Lk s0++L1)) Φ w1:=by
   have h1:=(hs.world.sub hL).alloc (.deferred (some []))
   have h2:=h1.alloc (.loop (f .ready none))
   simp_all
  have b0:w.heap.size ∉ X.D.map Prod.fst:=fun hm=>by
   obtain ⟨e,am,hE⟩:=List.mem_map.1 hm
   obtain ⟨q,hq⟩:=hs.world
   have:=(Array.getElem?_eq_some_iff.1 (hq.res e am).1).1
   omega
  have b4:=au.perm (L':=L1++((w.heap.size+1,.loop (f .ready none))::(w.heap.size,.deferred (some []))::Lk s0)) (List.perm_append_comm (l₁:=(w.heap.size+1,Obj.loop (f .ready none))::(w.heap.size,Obj.deferred (some []))::Lk s0))
  obtain ⟨q,hq⟩:=b4
  have bm:w.heap.size+1<w1.heap.size:=(Array.getElem?_eq_some_iff.1 (hq.own.1 _ (List.mem_append_right _ jU)).1).1
  let It:List β→Own→List Pers→Prop:=fun rem L Φ=>∃ s,I rem s∧L=(w.heap.size+1,.loop (f .ready none))::(w.heap.size,.deferred (some []))::Lk s∧Φ=Φk s
  let Itx:Own→List Pers→Prop:=fun L Φ=>∃ c s,Jx c s∧L=(w.heap.size+1,.loop (f .done (some c)))::(w.heap.size,.deferred (some []))::Lk s∧Φ=Φk s
  have ap:=az.2 (w.heap.size+1) w1 q It Itx _ (Φk s0) ⟨s0,h0,rfl,rfl⟩ (hΦ0 q hq.facts) (hΦ q hq.facts) hq.sub hq.own ?_
  ·refine B8h (ap.mono fun e w' hx=>?_)
   obtain ⟨⟨v,rfl⟩,L',Φ',hI,ba⟩:=hx
   have ax:=cG.call (L0:=L1++((w.heap.size+1,.loop (f .ready none))::(w.heap.size,.deferred (some []))::Lk s0)) (L2:=[]) hq oom ba
   rw [List.append_nil] at ax
   have l:∀ (st:LoopState) (pe:Option Code) (s:σ),st≠.busy→L'=(w.heap.size+1,.loop (f st pe))::(w.heap.size,.deferred (some []))::Lk s→Φ'=Φk s →
     (Instr.endLoop (w.heap.size+1)).run P w'=.ok pe (w'.putObj (w.heap.size+1) (.loop {f st pe with state:=.exhausted})) ∧
     St n (X.wd ((w.heap.size,.deferred (some []))::X.D)) E (Lk s) (Φk s) {a with defers:=[C3c w.heap.size]++a.defers} (w'.putObj (w.heap.size+1) (.loop {f st pe with state:=.exhausted})):=fun st pe s au r hΦ'=>by
    subst r hΦ'
    obtain ⟨q2,hq2⟩:=ax
    have hl:=(hq2.own.1 _ jU).1
    simp only at hl
    have i:=run_endLoop (P:=P) hl (by rw [hrec];exact au)
    rw [hrec] at i ⊢
    refine ⟨i,⟨hs.size,?_,hs.has,?_⟩⟩
    ·show [C3c w.heap.size]++a.defers=_
     rw [hs.defers]
     unfold Cx.marks Cx.wd
     simp only [ar];rfl
    ·have z:cG X ((w.heap.size,.deferred (some []))::Lk s) (Φk s++Φ) (w'.putObj (w.heap.size+1) (.loop {f st pe with state:=.exhausted})):=by
      have h4:=cG.reserve (X:=X) ⟨q2,hq2⟩
      have ac:=hq2.own.2
      have h5:=cG.take (X:=X) (d:=(w.heap.size+1,.loop (f st pe))) (ds:=X.D) ?_ (.loop {f st pe with state:=.exhausted}) h4
      ·exact h5
      ·intro hm
       obtain ⟨e,am,hE⟩:=List.mem_map.1 hm
       obtain ⟨q3,hq3⟩:=hs.world
       have:=(Array.getElem?_eq_some_iff.1 (hq3.res e am).1).1
       simp only at hE;omega
     rw [hrec] at z
     exact z.reserve.foll fun p hp q hq=>hp q (List.mem_append_left _ hq)
   rcases hI with ⟨s,hI,r,hΦ'⟩ | ⟨c,s,hI,r,hΦ'⟩
   ·obtain ⟨i,ak⟩:=l .ready none s oom r hΦ'
    exact ⟨none,_,i,a7 _ s b0 hI _ _ ak⟩
   ·obtain ⟨i,ak⟩:=l .done (some c) s oom r hΦ'
    have h6:=av _ c s b0 hI _ _ ak
    have:(X.wd ((w.heap.size,.deferred (some []))::X.D)).rho=none:=ar
    rw [this] at h6
    exact ⟨some c,_,i,h6⟩
  ·-- one round
   rintro x rest L0 Φ0 y hyk ⟨s,hIs,rfl,rfl⟩ wr hr hfr hsr hor
   have hl:=(hor.1 _ jU).1
   simp only at hl
   have hy:=run_yield (P:=P) (args:=(vs x y).toArray) hl (by rw [hrec];simp [b8])
   rw [hrec] at hy
   simp only [aj] at hy
   refine ⟨_,_,assign,body,hy,roundIn_of_wpIn trivial ?_⟩
   have b9:w.heap.size+1≠w.heap.size:=by omega
   let M0:List Nat:=(w.heap.size+1)::w.heap.size::(Lk s).map Prod.fst
   let Y:Cx:=⟨wr,hr,M0,some (w.heap.size+1),[(w.heap.size+1,.loop (f .ready none)),(w.heap.size,.deferred (some []))]⟩
   let Y':Cx:=⟨wr,hr,M0,some (w.heap.size+1),[(w.heap.size+1,.loop {f .ready none with state:=.busy}),(w.heap.size,.deferred (some []))]⟩
   have hb:=a8 x rest s y hyk hIs Y Y' (fun a₁ w₁=>∃ w₂,(Instr.beginRound (w.heap.size+1)).run P w₁=.ok () w₂∧body.wpIn (Fence.wide.inRound (w.heap.size+1)) 0 P
    (roundPost P (w.heap.size+1) fun e w'=>∃ b L' Φ',e=.returned (.bool b)∧(if b then It rest L' Φ' else Itx L' Φ')∧cG (cx wr hr M0) L' Φ' w') a₁ w₂) Z ?_
   ·refine hb _ wr ⟨?_,rfl,?_,hr,⟨hfr,hsr,Hp.le_refl hr,fun b hb=>.inl hb,hor.sub ((List.sublist_cons_self _ _).trans (List.sublist_cons_self _ _)),fun e u=>.inl ?_,KeptBut.refl _ _,fun d hd=>?_⟩⟩
    ·have:=hs.size
     simp only [ad];exact this
    ·exact ae _ _ _ (fun e u=>by rw [hs.size];exact bd _ (List.of_mem_zip u).1) hs.has
    ·exact List.mem_cons_of_mem _ (List.mem_cons_of_mem _ (List.mem_map_of_mem u))
    ·have ac:=hor.2
     simp only [List.map_cons,List.nodup_cons,List.mem_cons,not_or] at ac
     simp only [Y,List.mem_cons,List.not_mem_nil,or_false] at hd
     rcases hd with rfl | rfl
     ·exact ⟨hl,(hor.1 _ jU).2,fun e u hE=>ac.1.2 (by simp only at hE;rw [← hE];exact List.mem_map_of_mem u),.inr (by simp [Y,M0])⟩
     ·have h1:=hor.1 _ (List.mem_cons_of_mem _ jU)
      exact ⟨h1.1,h1.2,fun e u hE=>ac.2.1 (by simp only at hE;rw [← hE];exact List.mem_map_of_mem u),.inr (by simp [Y,M0])⟩
   ·-- the record turns to busy;the body;the record turns back
    intro E1 L3 Φ1 hJ a1 w2 hs1
    obtain ⟨q1,hq1⟩:=hs1.world
    have ay:=(hq1.res (w.heap.size+1,.loop (f .ready none)) (by simp [Y])).1
    simp only at ay
    refine ⟨_,run_beginRound ay (by rw [hrec]),?_⟩
    have b1:cG Y' L3 Φ1 (w2.putObj (w.heap.size+1) (.loop {f .ready none with state:=.busy})):=by
     have:=cG.reput (X:=Y) (d:=w.heap.size+1) (o:=.loop (f .ready none)) (o':=.loop {f .ready none with state:=.busy}) (ds:=[(w.heap.size,.deferred (some []))]) oom hs1.world
     exact this
    have an:=hJ a1 _ ⟨hs1.size,hs1.defers,hs1.has,b1⟩
    refine Code.wpIn_mono (fun e a2 w3 hp=>?_) an
    have aq:∀ (j:Option Code) (k:σ),cG Y' (Lk k) (Φk k) w3 →
      (Instr.endRound (w.heap.size+1) j).run P w3=.ok (.bool j.isNone) (w3.putObj (w.heap.size+1) (.loop (f (if j.isNone then .ready else .done) j))) ∧
      cG (cx wr hr M0) ((w.heap.size+1,.loop (f (if j.isNone then .ready else .done) j))::(w.heap.size,.deferred (some []))::Lk k) (Φk k) (w3.putObj (w.heap.size+1) (.loop (f (if j.isNone then .ready else .done) j))):=fun j k z=>by
     obtain ⟨q3,hq3⟩:=z
     have b3:=(hq3.res (w.heap.size+1,.loop {f .ready none with state:=.busy}) (by simp [Y'])).1
     simp only at b3
     have i:=run_endRound (P:=P) j b3
     refine ⟨by rw [hrec] at i ⊢;exact i,?_⟩
     have h4:=cG.reput (X:=Y') (d:=w.heap.size+1) (o:=.loop {f .ready none with state:=.busy}) (o':=.loop (f (if j.isNone then .ready else .done) j)) (ds:=[(w.heap.size,.deferred (some []))]) oom ⟨q3,hq3⟩
     exact cG.unres oom h4
    cases e with
    | normal =>
     obtain ⟨k,m,z⟩:=hp
     obtain ⟨i,h4⟩:=aq none k z
     exact ⟨_,_,i,true,_,_,rfl,⟨k,m,rfl,rfl⟩,h4⟩
    | ret =>
     obtain ⟨k,m,z⟩:=hp
     obtain ⟨i,h4⟩:=aq (some .ret) k z
     exact ⟨_,_,i,false,_,_,rfl,⟨.ret,k,m,rfl,rfl⟩,h4⟩
    | exit id =>
     obtain ⟨k,m,z⟩:=hp
     obtain ⟨i,h4⟩:=aq (some (.exit id)) k z
     exact ⟨_,_,i,false,_,_,rfl,⟨.exit id,k,m,rfl,rfl⟩,h4⟩
    | goto t=>exact hp.elim
    | panic c=>exact hp.elim
    | outgrown=>exact hp.elim
theorem aa {g:Func} {c:Code} {a:List Value} (L1:Own)
  (m : P.funcs[gf]? = some g) (hb : g.body = some c) (k : (g.name == "runtime.NumGoroutine") = false) (r : g.ntmps = n) (j : Nat.ble (a.length + 1) n = true) (E0 : Nat → cA) (hE : ∀ l, R0 ((List.range (a.length + 1)).zip (.func (.yield l) #[] #[] :: a)) (E0 l))
  (h:∀ (X:Cx) (l:Nat) (I:List β→Own→List Pers→Prop) (Ix:Own→List Pers→Prop) (L:Own) (Φ:List Pers),X.M=(L1++L).map Prod.fst→X.rho=none→X.D=[]→I xs L Φ →
   (∀ x rest L Φ y,ok x y→I (x::rest) L Φ→ai P l (vs x y) L (fx x y++Φ) fun b L' Φ'=>if b then I rest L' Φ' else Ix L' Φ')→J P n X c (E1b P X g fun L' Φ'=>I [] L' Φ'∨Ix L' Φ') (E0 l) (L1++(L++[])) (Φ0++Φ)):al P gf a L1 Φ0 ok vs fx xs:=by
 refine ⟨⟨by grind⟩,fun l w p I Ix L Φ hI hΦ0 hΦ hs ho hy=>?_⟩
 have f:(#[.func (.yield l) #[] #[]]++a.toArray:Array Value)=(Value.func (.yield l) #[] #[]::a).toArray:=by simp
 rw [f]
 simp only [List.append_nil] at h
 refine (callsIn_wide (n:=0)).1 (callsIn_of_wp_marks (F:=Fence.wide) m hb trivial (h (cx w p ((L1++L).map Prod.fst)) l I Ix L Φ Z Z Z hI hy _ w ⟨?_,rfl,?_,p,⟨?_,hs,Hp.le_refl p,fun b hb=>.inl hb,ho,fun e t=>.inl (List.mem_map_of_mem t),KeptBut.refl _ w,fun d s=>(by cases s)⟩⟩))
 ·have o:a.length+1≤n:=Nat.le_of_ble_eq_true j
  simp [r];omega
 ·rw [r]
  exact C1b (args:=Value.func (.yield l) #[] #[]::a) j (hE l)
 ·intro q i
  rcases List.mem_append.1 i with i | i
  ·exact hΦ0 q i
  ·exact hΦ q i
theorem F0q {p:Nat} {a f:Code} {r:List Value} {enc:β→Value}
  (m:X.rho=none) (y:ev E g=some (.func (.func gf) #[] r.toArray)) (j:C9v P gf r Φ0 enc xs) (hΦ0:A7 Φ Φ0) (o:ps=#[p]) (q:A1m n (some p)=true) (I:List β→σ→Prop) (Jx:Code→σ→Prop) (Lk:σ→Own) (Φk:σ→List Pers) (k:σ) (u:I xs k) (hL:(Lk k).Sublist L) (hΦ:A7 Φ (Φk k))
  (e:∀ x rest s,I (x::rest) s→∀ (Y Y':Cx) (K:Act→World→Prop),Y.rho.isSome=true →
   (∀ E L Φ,J P n Y' f (RP Y' I Jx Lk Φk rest) E L Φ→JQ n Y K E L Φ)→J P n Y a (Exit.then K (fun _ _ _=>False)) (cA.put E (some p) (enc x)) (Lk s) (Φk s))
  (b:∀ d s,d ∉ X.D.map Prod.fst→I [] s→JQ n (X.wd ((d,.deferred (some []))::X.D)) (Q .normal) E (Lk s) (Φk s))
  (i:∀ d c s,d ∉ X.D.map Prod.fst→Jx c s→J P n (X.wd ((d,.deferred (some []))::X.D)) c Q E (Lk s) (Φk s)):J P n X (.rangeFunc g ps a f) Q E L Φ :=
 ab (γ:=Unit) (ok:=fun _ _=>True) (vs:=fun x _=>[enc x]) (fx:=fun _ _=>[]) m y (L1:=[]) ⟨j.1,fun l w h I Ix L Φ h1 h2 h3 h4 h5 hy=>j.2 l w h I Ix L Φ h1 h2 h3 h4 h5 fun x rest L Φ hI=>hy x rest L Φ () trivial hI⟩ hΦ0 [p] o (fun t v=>by rw [List.mem_singleton.1 v];simpa [A1m,Nat.blt_eq] using q) (fun _ _=>Z)
  I Jx Lk Φk k u (by rw [List.append_nil];exact hL) hΦ (fun x rest s _ _=>e x rest s) b i
end
end
end Go.Fen
