import Derived.WalkKit
import Derived.BigQuiet
import Derived.Deep.QuietTactic
import Derived.Sort.QuietThIn
import Derived.Sort.LoopGhostIn
import Derived.LoopNIn
import Derived.RangeFuncNested
import Derived.Deep.LoopGhost
import Derived.ChangeKeysEq
import Derived.OrdersHeld
import Derived.Maps.AppendAt
set_option linter.unusedVariables false
set_option linter.unusedSimpArgs false
namespace Go.Fen
open Go Go.RowKit
abbrev Hp:=Nat→Option Obj
def Hp.le (h h':Hp):Prop:=∀ b o,h b=some o→h' b=some o
def Hp.sub (h:Hp) (w:World):Prop:=∀ b o,h b=some o→w.heap[b]?=some o
theorem Hp.le_refl (h:Hp):h.le h:=fun _ _ e=>e
theorem Hp.le_trans {a b c:Hp} (h:a.le b) (k:b.le c):a.le c:=fun i o e=>k i o (h i o e)
structure Pers where
 p:Hp→Prop
 mono:∀ {h h':Hp},h.le h'→p h→p h'
abbrev Own:=List (Nat×Obj)
abbrev Env:=List (Nat×Value)
structure Cx where
 w0:World
 h0:Hp
 M:List Nat
 rho:Option Nat
 D:List (Nat×Obj)
def FW (ρ:Option Nat):Fence:={fn:=fun _=>True,depth:=none,alive:=false,round:=ρ}
theorem A9w {ρ:Option Nat} {k:Nat} {P:Program} {f:FuncId} {args:Array Value} {w:World} {R:Ending→World→Prop} (h:Calls P f args w R):CallsIn (FW ρ) k P f args w R :=
 (callsIn_wide (n:=k)).2 h
theorem D0v {ρ:Option Nat} {k:Nat} {P:Program} {row:String} {args:Array Value} {w:World} {R:Value→World→Prop} (h:Rows P row args w R):RowsIn (FW ρ) k P row args w R :=
 fun c cs _=>let ⟨v,w',hR,hs⟩:=h c cs;⟨v,w',hR,stepsIn_wide.2 hs⟩
theorem A6b {ρ:Option Nat} {k:Nat}:(FW ρ).depth.isSome=true→1≤k:=fun h=>by simp [FW] at h
def B2r:Op→Bool
 | .defer _=>true
 | _=>false
theorem A3b {ρ:Option Nat} {P:Program} {o:Oper} {a:Act} {w:World} {K:Act→World→Prop} {Q:Exit→Act→World→Prop} (hd:B2r o.op=false) (h:o.wp P a w K Q):o.wpIn (FW ρ) 0 P a w K Q:=by
 refine ⟨fun _ _=>trivial,?_⟩
 rw [Oper.semAt_eq _ _ _ (fun c hc=>by rw [hc] at hd;cases hd)]
 unfold Oper.wp at h
 revert h
 generalize (execOp a.eval o).run P w=r
 intro h
 cases r with
 | ok x w' =>
  cases x with
  | value v=>exact h
  | skip=>exact h
  | defer d=>exact h
  | enter f args=>exact ⟨A6b,A9w h⟩
  | row row args=>exact ⟨A6b,D0v h⟩
  | _=>exact h.elim
 | halt x w'=>cases x<;>first | exact h | exact h.elim
def B5q (d:Nat):Deferred:={target:=.collected d,args:=#[]}
def Cx.marks (X:Cx):List Deferred:=match X.rho with | none=>X.D.map (B5q ·.1) | some _=>[]
structure KeptBut (M:List Nat) (w w':World):Prop where
 os:w'.os=w.os
 tape:w'.tape=w.tape
 output:w'.output=w.output
 size:w.heap.size≤w'.heap.size
 block:∀ k,k<w.heap.size→k ∉ M→w'.heap[k]?=w.heap[k]?
theorem KeptBut.refl (M:List Nat) (w:World):KeptBut M w w:=⟨rfl,rfl,rfl,Nat.le_refl _,fun _ _ _=>rfl⟩
theorem KeptBut.below {w w':World} (h:KeptBut [] w w'):Below w.heap.size w w':=⟨h.os,h.tape,h.output,h.size,fun k hk=>h.block k hk (by simp)⟩
theorem KeptBut.trans {M:List Nat} {a b c:World} (h:KeptBut M a b) (k:KeptBut M b c):KeptBut M a c :=
 ⟨k.os.trans h.os,k.tape.trans h.tape,k.output.trans h.output,Nat.le_trans h.size k.size,fun i hi hm=>(k.block i (Nat.lt_of_lt_of_le hi h.size) hm).trans (h.block i hi hm)⟩
def A0i (L:Own) (h:Hp) (w:World):Prop:=(∀ e ∈ L,w.heap[e.1]?=some e.2∧h e.1=none)∧(L.map Prod.fst).Nodup
structure StH (X:Cx) (L:Own) (Φ:List Pers) (h:Hp) (w:World):Prop where
 facts:∀ q ∈ Φ,q.p h
 sub:h.sub w
 le:X.h0.le h
 dom:∀ b,h b≠none→X.h0 b≠none∨(b ∈ X.M∨X.w0.heap.size≤b)
 own:A0i L h w
 may:∀ e ∈ L,e.1 ∈ X.M∨X.w0.heap.size≤e.1
 kept:KeptBut X.M X.w0 w
 res:∀ d ∈ X.D,w.heap[d.1]?=some d.2∧h d.1=none∧(∀ e ∈ L,e.1≠d.1)∧(X.w0.heap.size≤d.1∨d.1 ∈ X.M)
def StW (X:Cx) (L:Own) (Φ:List Pers) (w:World):Prop:=∃ h,StH X L Φ h w
def Has (a:Act) (E:Env):Prop:=∀ t v,E.lookup t=some v→a.tmps[t]?=some v
structure St (n:Nat) (X:Cx) (E:Env) (L:Own) (Φ:List Pers) (a:Act) (w:World):Prop where
 size:a.tmps.size=n
 defers:a.defers=X.marks
 has:Has a E
 world:StW X L Φ w
def ev (E:Env):Operand→Option Value
 | .tmp t=>E.lookup t
 | .const v=>some v
 | .global g=>some (.pointer (some ⟨g,0,none⟩))
 | .func f=>some (.func (.func f) #[] #[])
theorem C0 {a:Act} {E:Env} (h:Has a E) {x:Operand} {v:Value} (e:ev E x=some v):a.eval x=v:=by
 cases x with
 | tmp t=>have:=h t v e;simp [Act.eval,this]
 | const u=>simp [ev] at e;simp [Act.eval,e]
 | global g=>simp [ev] at e;simp [Act.eval,e]
 | func f=>simp [ev] at e;simp [Act.eval,e]
theorem Has.put {a:Act} {E:Env} (h:Has a E) {d:Nat} (hd:d<a.tmps.size) (v:Value):Has (a.put (some d) v) ((d,v)::E):=by
 intro t u e
 simp only [Act.put]
 by_cases ht:t=d
 ·subst ht
  simp [List.lookup] at e
  simp [hd,e]
 ·have:(t == d)=false:=by simpa using ht
  simp only [List.lookup,this] at e
  rw [Array.getElem?_setIfInBounds,if_neg (fun e=>ht e.symm)]
  exact h t u e
theorem Act.put_size (a:Act) (d:Option Nat) (v:Value):(a.put d v).tmps.size=a.tmps.size:=by cases d<;>simp [Act.put]
theorem Act.put_defers' (a:Act) (d:Option Nat) (v:Value):(a.put d v).defers=a.defers:=by cases d<;>rfl
def Env.put (E:Env) (d:Option Nat) (v:Value):Env:=match d with | some d=>(d,v)::E | none=>E
def X5 (n:Nat):Option Nat→Bool | some d=>Nat.blt d n | none=>true
theorem St.put {n:Nat} {X:Cx} {E:Env} {L L':Own} {Φ Φ':List Pers} {a:Act} {w w':World} (h:St n X E L Φ a w) {d:Option Nat} (hd:X5 n d=true) (v:Value) (hw:StW X L' Φ' w'):St n X (Env.put E d v) L' Φ' (a.put d v) w':=by
 refine ⟨by rw [Act.put_size,h.size],by rw [Act.put_defers',h.defers],?_,hw⟩
 cases d with
 | none=>exact h.has
 | some d=>exact h.has.put (by rw [h.size];simpa [X5,Nat.blt_eq] using hd) v
section
variable (P:Program) (n:Nat) (X:Cx)
def J (c:Code) (Q:Exit→Act→World→Prop) (E:Env) (L:Own) (Φ:List Pers):Prop:=∀ a w,St n X E L Φ a w→c.wpIn (FW X.rho) 0 P Q a w
def JQ (K:Act→World→Prop) (E:Env) (L:Own) (Φ:List Pers):Prop:=∀ a w,St n X E L Φ a w→K a w
def JI (ops:Array Oper) (i m:Nat) (K:Act→World→Prop) (Q:Exit→Act→World→Prop) (E:Env) (L:Own) (Φ:List Pers):Prop :=
 ∀ a w,St n X E L Φ a w→wpListIn (FW X.rho) 0 P ops (Exit.then K Q) ((ops.toList.drop i).take m) a w
end
section
variable {P:Program} {n:Nat} {X:Cx} {K:Act→World→Prop} {Q:Exit→Act→World→Prop} {E E':Env} {L L':Own} {Φ Φ':List Pers}
theorem A3 {x y:Code} (h:J P n X x (Exit.then (fun a w=>y.wpIn (FW X.rho) 0 P Q a w) Q) E L Φ):J P n X (.seq x y) Q E L Φ:=fun a w hs=>wpIn_seq (h a w hs)
theorem C2i (Q:Exit→Act→World→Prop):Exit.then (Q .normal) Q=Q:=by funext e a w;cases e<;>rfl
theorem A5 {id:Nat} {ops:Array Oper} (m:Nat) (hm:ops.size=m) (h:JI P n X ops 0 m (Q .normal) Q E L Φ):J P n X (.region id ops false) Q E L Φ:=fun a w hs=>wpIn_region_list (by
 have:=h a w hs
 rw [C2i,List.drop_zero,List.take_of_length_le (by simp [← hm])] at this
 exact this)
theorem A4 (h:JQ n X (Q .normal) E L Φ):J P n X .skip Q E L Φ:=fun a w hs=>wpIn_skip (h a w hs)
theorem B0 {id:Nat} {c:Code} (h:J P n X c (Exit.inBlock id Q) E L Φ):J P n X (.block id c) Q E L Φ:=fun a w hs=>wpIn_block (h a w hs)
theorem G2 {id:Nat} (h:JQ n X (Q (.exit id)) E L Φ):J P n X (.exit id) Q E L Φ:=fun a w hs=>wpIn_exit (h a w hs)
theorem A7 (h:JQ n X (Q .ret) E L Φ):J P n X .ret Q E L Φ:=fun a w hs=>wpIn_ret (h a w hs)
theorem S2 {c:Operand} {x y:Code} {g:Bool} (hc:ev E c=some (.bool g)) (h1:g=true→J P n X x Q E L Φ) (h2:g=false→J P n X y Q E L Φ):J P n X (.cond c x y) Q E L Φ :=
 fun a w hs=>wpIn_cond_split (C0 hs.has hc) (fun e=>h1 e a w hs) (fun e=>h2 e a w hs)
theorem H8 {c:Operand} {x y:Code} (hc:ev E c=some (.bool true)) (h1:J P n X x Q E L Φ):J P n X (.cond c x y) Q E L Φ:=S2 hc (fun _=>h1) (fun e=>by cases e)
theorem A0m {c:Operand} {x y:Code} (hc:ev E c=some (.bool false)) (h1:J P n X y Q E L Φ):J P n X (.cond c x y) Q E L Φ:=S2 hc (fun e=>by cases e) (fun _=>h1)
theorem A1 {ops:Array Oper} {i:Nat} (h:JQ n X K E L Φ):JI P n X ops i 0 K Q E L Φ:=fun a w hs=>by
 rw [List.take_zero];exact wpListIn_nil (h a w hs)
def Tri (P:Program) (n:Nat) (X:Cx) (o:Oper) (E:Env) (L:Own) (Φ:List Pers) (α:Type) (val:α→Value) (L':α→Own) (Φ':α→List Pers):Prop :=
 ∀ a w (K:Act→World→Prop) (Q:Exit→Act→World→Prop),St n X E L Φ a w→(∀ x w',StW X (L' x) (Φ' x) w'→K (a.put o.dst (val x)) w')→o.wpIn (FW X.rho) 0 P a w K Q
def A6h (ops:Array Oper) (o:Oper) (E:Env):Option Bool :=
 match o.guard with
 | none=>some true
 | some (j,want)=>match ((ops[j]?).bind (·.dst)).bind (E.lookup ·) with
  | some (.bool b)=>some (b == want)
  | some (.tuple _)=>some false
  | _=>none
theorem X7 {ops:Array Oper} {o:Oper} {a:Act} {b:Bool} (hh:Has a E) (h:A6h ops o E=some b):Region.wanted o (yielded ops a.tmps)=b:=by
 unfold A6h at h
 unfold Region.wanted
 split at h
 ·simp_all
 ·rename_i j want hg
  simp only [hg]
  split at h
  ·rename_i c hc
   obtain ⟨d,hd,hc'⟩:=Option.bind_eq_some_iff.1 hc
   have:=hh d _ hc'
   simp only [Option.some.injEq] at h
   simp only [yielded,hd,Option.bind_some,this]
   rw [← h]
   cases c<;>cases want<;>rfl
  ·rename_i vs hc
   obtain ⟨d,hd,hc'⟩:=Option.bind_eq_some_iff.1 hc
   have:=hh d _ hc'
   simp only [Option.some.injEq] at h
   simp only [yielded,hd,Option.bind_some,this]
   rw [← h]
   rfl
  ·cases h
theorem A5o {ops:Array Oper} {i:Nat} {o:Oper} (h:ops[i]?=some o):ops.toList.drop i=o::ops.toList.drop (i+1):=by
 have hi:i<ops.toList.length:=by
  rcases Nat.lt_or_ge i ops.size with h' | h'
  ·simpa using h'
  ·rw [Array.getElem?_eq_none h'] at h;cases h
 rw [List.drop_eq_getElem_cons hi]
 congr 1
 have:ops[i]?=some (ops.toList[i]):=by rw [Array.getElem?_eq_getElem (by simpa using hi)];rfl
 rw [this] at h;exact Option.some.inj h
theorem B6d {ops:Array Oper} {i m:Nat} {o:Oper} {α:Type} {val:α→Value} {L':α→Own} {Φ':α→List Pers} (ho:ops[i]?=some o) (hg:A6h ops o E=some true) (hd:X5 n o.dst=true)
  (ht:Tri P n X o E L Φ α val L' Φ') (h:∀ x,JI P n X ops (i+1) m K Q (Env.put E o.dst (val x)) (L' x) (Φ' x)):JI P n X ops i (m+1) K Q E L Φ:=by
 intro a w hs
 rw [A5o ho,List.take_succ_cons]
 refine wpListIn_step fun K hK=>?_
 rw [if_pos (X7 hs.has hg)]
 exact ht a w K _ hs fun x w' hw'=>hK _ _ (h x _ _ (hs.put hd _ hw'))
theorem C5l {ops:Array Oper} {i m:Nat} {o:Oper} (ho:ops[i]?=some o) (hg:A6h ops o E=some false) (hd:X5 n o.dst=true)
  (h:JI P n X ops (i+1) m K Q (Env.put E o.dst undef) L Φ):JI P n X ops i (m+1) K Q E L Φ:=by
 intro a w hs
 rw [A5o ho,List.take_succ_cons]
 refine wpListIn_step fun K hK=>?_
 rw [if_neg (by rw [X7 hs.has hg];simp)]
 exact ⟨fun _ _=>trivial,hK _ _ (h _ _ (hs.put hd _ hs.world))⟩
def Det (P:Program) (X:Cx) (o:Oper) (E:Env) (L:Own) (Φ:List Pers) (v:Value):Prop:=∀ a,Has a E→∀ w,StW X L Φ w→o.quietAt P a (StW X L Φ) w v
theorem Det.tri {o:Oper} {v:Value} (h:Det P X o E L Φ v):Tri P n X o E L Φ Unit (fun _=>v) (fun _=>L) (fun _=>Φ):=by
 intro a w K Q' hs hk
 have hq:=h a hs.has w hs.world
 have hnd:B2r o.op=false:=by
  cases ho:o.op with
  | defer c =>
   exfalso
   unfold Oper.quietAt at hq
   have:(execOp a.eval o).run P w=Result.andThen ((resolve a.eval c o.type).run P w) fun d=>(pure (Next.defer d):Sem Next).run P:=by
    simp [execOp,ho]
    rfl
   rw [this] at hq
   cases hr:(resolve a.eval c o.type).run P w with
   | ok d w'=>rw [hr] at hq;exact hq.elim
   | halt x w'=>rw [hr] at hq;exact hq.elim
  | _=>rfl
 refine A3b hnd ?_
 unfold Oper.quietAt Oper.quietUpon at hq
 unfold Oper.wp Oper.upon
 split at hq
 ·rename_i u w' hr;rw [hr];obtain ⟨rfl,rfl⟩:=hq;exact hk () _ hs.world
 ·rename_i w' hr;rw [hr];obtain ⟨rfl,rfl⟩:=hq;exact hk () _ hs.world
 ·rename_i f args w' hr;rw [hr];obtain ⟨rfl,hc⟩:=hq
  exact hc.mono fun e w'' ⟨he,hw⟩=>by subst he;exact hk () _ hw
 ·exact hq.elim
theorem C0m {ops:Array Oper} {i m:Nat} {o:Oper} {v:Value} (ho:ops[i]?=some o) (hg:A6h ops o E=some true) (hd:X5 n o.dst=true)
  (ht:Det P X o E L Φ v) (h:JI P n X ops (i+1) m K Q (Env.put E o.dst v) L Φ):JI P n X ops i (m+1) K Q E L Φ:=B6d ho hg hd ht.tri fun _=>h
theorem Has.weaken {a:Act} (h:Has a E) (hE:∀ e ∈ E',E.lookup e.1=some e.2):Has a E':=by
 intro t v e
 induction E' with
 | nil=>simp [List.lookup] at e
 | cons x xs ih =>
  obtain ⟨t',v'⟩:=x
  by_cases ht:t=t'
  ·subst ht
   simp [List.lookup] at e
   subst e
   exact h _ _ (hE (t,v') (by simp))
  ·have:(t == t')=false:=by simpa using ht
   simp only [List.lookup,this] at e
   exact ih (fun e' he'=>hE e' (by simp [he'])) e
def J0 (E:Env):Env→Prop
 | []=>True
 | (t,v)::rest=>E.lookup t=some v∧J0 E rest
theorem I2:∀ {E':Env},J0 E E'→∀ e ∈ E',E.lookup e.1=some e.2
 | [],_,e,he=>by cases he
 | (t,v)::rest,h,e,he=>by
  rcases List.mem_cons.1 he with rfl | he
  ·exact h.1
  ·exact I2 h.2 e he
theorem St.env {a:Act} {w:World} (h:St n X E L Φ a w) (hE:J0 E E'):St n X E' L Φ a w:=⟨h.size,h.defers,h.has.weaken (I2 hE),h.world⟩
theorem StW.mono {w:World} (h:StW X L Φ w) (hΦ:∀ q ∈ Φ',q ∈ Φ):StW X L Φ' w:=let ⟨p,hp⟩:=h;⟨p,⟨fun q hq=>hp.facts q (hΦ q hq),hp.sub,hp.le,hp.dom,hp.own,hp.may,hp.kept,hp.res⟩⟩
theorem StW.fact {w:World} (h:StW X L Φ w) (q:Pers) (hq:∀ p:Hp,(∀ q ∈ Φ,q.p p)→q.p p):StW X L (q::Φ) w :=
 let ⟨p,hp⟩:=h;⟨p,⟨fun q' hq'=>by rcases List.mem_cons.1 hq' with rfl | hq';exact hq _ hp.facts;exact hp.facts q' hq',hp.sub,hp.le,hp.dom,hp.own,hp.may,hp.kept,hp.res⟩⟩
theorem D1p {ops:Array Oper} {i m:Nat} (q:Pers) (hq:∀ p:Hp,(∀ q ∈ Φ,q.p p)→q.p p) (h:JI P n X ops i m K Q E L (q::Φ)):JI P n X ops i m K Q E L Φ :=
 fun a w hs=>h a w ⟨hs.size,hs.defers,hs.has,hs.world.fact q hq⟩
theorem D3u {c:Code} (q:Pers) (hq:∀ p:Hp,(∀ q ∈ Φ,q.p p)→q.p p) (h:J P n X c Q E L (q::Φ)):J P n X c Q E L Φ :=
 fun a w hs=>h a w ⟨hs.size,hs.defers,hs.has,hs.world.fact q hq⟩
theorem C9k {c:Code} (E':Env) (hE:J0 E E') (h:J P n X c Q E' L Φ):J P n X c Q E L Φ:=fun a w hs=>h a w (hs.env hE)
theorem Has.lit {a:Act} (ha:Has a E) {t:Nat} {g b:Bool} (ht:E.lookup t=some (.bool g)) (hb:g=b):Has a ((t,.bool b)::E):=by
 intro t' v e
 by_cases he:t'=t
 ·subst he;simp [List.lookup] at e;subst e;rw [← hb];exact ha _ _ ht
 ·have:(t' == t)=false:=by simpa using he
  simp only [List.lookup,this] at e
  exact ha _ _ e
theorem C4c {ops:Array Oper} {i m:Nat} (t:Nat) (g:Bool) (ht:E.lookup t=some (.bool g)) (h1:g=true→JI P n X ops i m K Q ((t,.bool true)::E) L Φ) (h2:g=false→JI P n X ops i m K Q ((t,.bool false)::E) L Φ):JI P n X ops i m K Q E L Φ:=by
 intro a w hs
 cases hg:g with
 | true=>exact h1 hg a w ⟨hs.size,hs.defers,hs.has.lit ht hg,hs.world⟩
 | false=>exact h2 hg a w ⟨hs.size,hs.defers,hs.has.lit ht hg,hs.world⟩
theorem B4z {F:Fence} {k:Nat} {o:Oper} {a:Act} {K K':Act→World→Prop} {Q Q':Exit→Act→World→Prop} (hK:∀ a w,K a w→K' a w) (hQ:∀ c a w,Q (.panic c) a w→Q' (.panic c) a w) (hO:LetsOut Q→LetsOut Q') {r:Result Next} (h:o.uponIn F k P a K Q r):o.uponIn F k P a K' Q' r:=by
 cases r with
 | ok x w' =>
  cases x with
  | value v=>exact hK _ _ h
  | skip=>exact hK _ _ h
  | defer d=>exact hK _ _ h
  | enter f args=>exact ⟨h.1,h.2.mono fun e w'' he=>by
    cases e with
    | returned v=>exact hK _ _ he
    | panicked chain=>exact hQ _ _ _ he
    | outgrown=>exact hO he⟩
  | row row args=>exact ⟨h.1,h.2.mono fun v w'' he=>hK _ _ he⟩
  | round l f tmps assign body=>exact ⟨h.1,h.2.mono fun e w'' he=>by
    cases e with
    | returned v=>exact hK _ _ he
    | panicked chain=>exact hQ _ _ _ he
    | outgrown=>exact hO he⟩
  | _=>exact h.elim
 | halt x w'=>cases x<;>first | exact hQ _ _ _ h | exact h.elim
theorem B1e {F:Fence} {k:Nat} {ops:Array Oper} {K:Act→World→Prop}:∀ (l1 l2:List Oper) (a:Act) (w:World),wpListIn F k P ops (Exit.then K Q) l1 a w→(∀ a w,K a w→wpListIn F k P ops Q l2 a w)→wpListIn F k P ops Q (l1++l2) a w
 | [],_,a,w,h,hk=>hk a w h
 | o::l1,l2,a,w,h,hk=>by
  simp only [List.cons_append,wpListIn] at h ⊢
  have ih:=fun a w h=>B1e l1 l2 a w h hk
  split
  ·rename_i hw
   rw [if_pos hw] at h
   exact ⟨h.1,B4z (fun a w h=>ih a w h) (fun c a w h=>h) (fun h=>h) h.2⟩
  ·rename_i hw
   rw [if_neg hw] at h
   exact ⟨h.1,ih _ _ h.2⟩
theorem C6s (K K':Act→World→Prop) (Q:Exit→Act→World→Prop):Exit.then K (Exit.then K' Q)=Exit.then K Q:=by funext e a w;cases e<;>rfl
theorem C9c {ops:Array Oper} {i:Nat} (k m:Nat) (E1:Env) (L1:Own) (Φ1:List Pers) (h:JI P n X ops i k (fun a w=>St n X E1 L1 Φ1 a w) Q E L Φ) (h2:JI P n X ops (i+k) m K Q E1 L1 Φ1):JI P n X ops i (k+m) K Q E L Φ:=by
 intro a w hs
 rw [List.take_add,List.drop_drop]
 refine B1e (K:=fun a w=>St n X E1 L1 Φ1 a w) _ _ a w ?_ fun a w hs'=>h2 a w hs'
 rw [C6s]
 exact h a w hs
end
end Go.Fen
set_option linter.unusedVariables false
set_option linter.unusedSimpArgs false
namespace Go.Fen
open Go Go.RowKit
def bOp (op:BinOp) (k:IntKind) (a b:Int):Int :=
 k.wrap (match op with
  | .and=>BitVec.ofInt k.bits a &&& BitVec.ofInt k.bits b
  | .or=>BitVec.ofInt k.bits a ||| BitVec.ofInt k.bits b
  | .xor=>BitVec.ofInt k.bits a ^^^ BitVec.ofInt k.bits b
  | _=>BitVec.ofInt k.bits a &&& ~~~BitVec.ofInt k.bits b:BitVec k.bits).toNat
def B2q (op:BinOp) (u v:Value):Option Value :=
 match op,u,v with
 | .lss,.int j a,.int k b=>if j=k then some (.bool (decide (a<b))) else none
 | .leq,.int j a,.int k b=>if j=k then some (.bool (decide (a≤b))) else none
 | .gtr,.int j a,.int k b=>if j=k then some (.bool (decide (b<a))) else none
 | .geq,.int j a,.int k b=>if j=k then some (.bool (decide (b≤a))) else none
 | .eql,.int j a,.int k b=>if j=k then some (.bool (decide (a=b))) else none
 | .neq,.int j a,.int k b=>if j=k then some (.bool (!decide (a=b))) else none
 | .add,.int j a,.int k b=>if j=k then some (.int j (j.wrap (a+b))) else none
 | .sub,.int j a,.int k b=>if j=k then some (.int j (j.wrap (a - b))) else none
 | .mul,.int j a,.int k b=>if j=k then some (.int j (j.wrap (a * b))) else none
 | .and,.int j a,.int k b=>if j=k then some (.int j (bOp .and j a b)) else none
 | .or,.int j a,.int k b=>if j=k then some (.int j (bOp .or j a b)) else none
 | .xor,.int j a,.int k b=>if j=k then some (.int j (bOp .xor j a b)) else none
 | .andNot,.int j a,.int k b=>if j=k then some (.int j (bOp .andNot j a b)) else none
 | .eql,.string a,.string b=>some (.bool (a.toList == b.toList))
 | .neq,.string a,.string b=>some (.bool (!(a.toList == b.toList)))
 | _,_,_=>none
def C5t:Option TypeDesc→Option Value→Option Value
 | some (.slice _),some (.slice _ l _)=>some (.int .i64 l)
 | some .string,some (.string s)=>some (.int .i64 s.size)
 | _,_=>none
def C0w (mx:Bool) (u v:Option Value) (n:Nat):Option Value :=
 match u,v with
 | some (.int j a),some (.int k b)=>if j=k∧n=2 then some (.int j (if mx then (if b > a then b else a) else (if b<a then b else a))) else none
 | _,_=>none
def B0g (P:Program) (E:Env):Op→Option Value
 | .move x=>ev E x
 | .assign x=>ev E x
 | .pick c a b=>match ev E c with
  | some (.bool true)=>ev E a
  | some (.bool false)=>ev E b
  | _=>none
 | .binOp op _ x y _=>match ev E x,ev E y with
  | some u,some v=>B2q op u v
  | _,_=>none
 | .unOp op _ x=>match op,ev E x with
  | .not,some (.bool b)=>some (.bool !b)
  | .neg,some (.int k m)=>some (.int k (k.wrap (0 - m)))
  | _,_=>none
 | .extract t i=>match ev E t with
  | some (.tuple vs)=>vs[i]?
  | _=>none
 | .makeFunc fn first cap=>match first.toList.mapM (ev E),cap.toList.mapM (ev E) with
  | some fs,some cs=>some (.func fn fs.toArray cs.toArray)
  | _,_=>none
 | .call c=>match c.callee,c.args[0]?,c.argTypes[0]? with
  | .builtin .len,some x,some t=>C5t (P.underlying t) (ev E x)
  | .builtin .max,some x,_=>C0w true (ev E x) (c.args[1]?.bind (ev E)) c.args.size
  | .builtin .min,some x,_=>C0w false (ev E x) (c.args[1]?.bind (ev E)) c.args.size
  | _,_,_=>none
 | .nilCheck x=>match ev E x with
  | some (.pointer (some a))=>some (.pointer (some a))
  | _=>none
 | .convert S T x=>match P.underlying S,P.underlying T,ev E x with
  | some _,some (.int k),some (.int _ m)=>some (.int k (k.wrap m))
  | _,_,_=>none
 | .fieldAddr s x f=>match P.underlying s,ev E x with
  | some (.struct fields),some (.pointer (some a))=>match fields[f]? with
   | some fd=>match P.info? fd.type with
    | some i=>if i.size=0 then none else some (.pointer (some (a.add fd.offset)))
    | none=>none
   | none=>none
  | _,_=>none
 | .field s x f=>match P.underlying s,ev E x with
  | some (.struct fields),some (.agg cs)=>match fields[f]? with
   | some fd=>match P.underlying fd.type,P.info? fd.type with
    | some (.struct _),some i=>some (.agg (cs.extract fd.offset (fd.offset+i.size)))
    | some (.array _ _),some i=>some (.agg (cs.extract fd.offset (fd.offset+i.size)))
    | some _,some _=>cs[fd.offset]?
    | _,_=>none
   | none=>none
  | _,_=>none
 | _=>none
section
variable {P:Program} {n:Nat} {X:Cx} {Q:Exit→Act→World→Prop} {E E':Env} {L L':Own} {Φ Φ':List Pers}
def I9 (P:Program) (X:Cx) (o:Oper) (E:Env) (L:Own) (Φ:List Pers) (v:Value):Prop:=∀ a w,Has a E→StW X L Φ w→(execOp a.eval o).run P w=.ok (.value v) w
theorem I9.of_run {o:Oper} {v:Value} (h:∀ a w,Has a E→StW X L Φ w→(execOp a.eval o).run P w=.ok (.value v) w):I9 P X o E L Φ v:=h
theorem Det.of_run {o:Oper} {v:Value} (h:∀ a w,Has a E→StW X L Φ w→(execOp a.eval o).run P w=.ok (.value v) w):Det P X o E L Φ v:=by
 intro a ha w hw
 unfold Oper.quietAt
 rw [h a w ha hw]
 exact ⟨rfl,rfl⟩
theorem B0a {t:TypeId} {i:TypeInfo} (h:P.info? t=some i) (w:World):(typeInfo t).run P w=.ok i w:=by
 simp [typeInfo,h]
theorem A0y {t:TypeId} {i:TypeInfo} (h:P.info? t=some i) (w:World):(sizeOf t).run P w=.ok i.size w:=by
 simp [sizeOf,B0a h]
theorem C3a {op:BinOp} {u v r:Value} (h:B2q op u v=some r) (t:TypeId) (x y:Operand) (w:World) :
  (do eqGuard op t x y u v;binOp op t u v:Sem Value).run P w=.ok r w:=by
 unfold B2q at h
 split at h<;>(try split at h)<;>simp only [Option.some.injEq,reduceCtorEq] at h<;>(try subst h)<;>(try subst_vars) <;>
  simp [eqGuard,binOp,Op.intCmp,Op.intArith,Op.stringOp,Op.intBits,bOp]<;>rfl
theorem C5x {a:Act} (ha:Has a E):∀ {xs:List Operand} {vs:List Value},xs.mapM (ev E)=some vs→xs.map a.eval=vs
 | [],vs,h=>by simp at h;simp [h]
 | x::xs,vs,h=>by
  simp only [List.mapM_cons,Option.bind_eq_bind,Option.bind_eq_some_iff] at h
  obtain ⟨v,hv,us,hus,h⟩:=h
  simp only [Option.pure_def,Option.some.injEq] at h
  subst h
  simp [C0 ha hv,C5x ha hus]
theorem A6l {a:Act} (ha:Has a E) {xs:Array Operand} {vs:List Value} (h:xs.toList.mapM (ev E)=some vs):xs.map a.eval=vs.toArray:=by
 have:=C5x ha h
 apply Array.ext'
 simpa using this
theorem B0k {t:TypeId} {d:TypeDesc} (h:P.underlying t=some d) (w:World):(isAgg t).run P w=.ok (match d with | .struct _ | .array _ _=>true | _=>false) w:=by
 unfold isAgg
 rw [Sem.run_bind,run_underlying h]
 cases d<;>rfl
theorem C9b {o:Oper} {c:Call} {mx:Bool} {x:Operand} {v:Value} {a:Act} (ha:Has a E) (ho:o.op=.call c) (hc:(c.callee=.builtin .max∧mx=true)∨(c.callee=.builtin .min∧mx=false)) (hx:c.args[0]?=some x)
  (h:C0w mx (ev E x) (c.args[1]?.bind (ev E)) c.args.size=some v) (w:World):(execOp a.eval o).run P w=.ok (.value v) w:=by
 unfold C0w at h
 split at h
 ·rename_i j m k l h1 h2
  split at h
  ·rename_i hjk
   obtain ⟨rfl,hsz⟩:=hjk
   simp only [Option.some.injEq] at h
   obtain ⟨y,hy,h2⟩:=Option.bind_eq_some_iff.1 h2
   obtain ⟨xs⟩:∃ xs:List Operand,c.args=xs.toArray:=⟨c.args.toList,by simp⟩
   rename_i hxs
   rw [hxs] at hx hy hsz
   match xs,hx,hy,hsz with
   | [p,q],hx,hy,_ =>
    simp at hx hy
    subst hx hy
    rcases hc with ⟨hc,rfl⟩ | ⟨hc,rfl⟩
    ·subst h
     simp [execOp,ho,resolve,hc,hxs,C0 ha h1,C0 ha h2,invoke,builtin,Builtin.max_,Builtin.max2]
    ·subst h
     simp [execOp,ho,resolve,hc,hxs,C0 ha h1,C0 ha h2,invoke,builtin,Builtin.min_,Builtin.min2]
  ·cases h
 ·cases h
theorem B7k {o:Oper} {v:Value} (h:B0g P E o.op=some v) (a:Act) (w:World) (ha:Has a E):(execOp a.eval o).run P w=.ok (.value v) w:=by
 unfold B0g at h
 split at h<;>(rename_i hop)
 ·simp [execOp,hop,C0 ha h]
 ·simp [execOp,hop,C0 ha h]
 ·split at h
  ·rename_i hc
   simp [execOp,hop,C0 ha hc,asBool,C0 ha h]
  ·rename_i hc
   simp [execOp,hop,C0 ha hc,asBool,C0 ha h]
  ·cases h
 ·split at h
  ·rename_i hx hy
   have:=C3a (P:=P) h
   simp only [execOp,hop,C0 ha hx,C0 ha hy]
   rw [Sem.run_bind,this]
   rfl
  ·cases h
 ·split at h
  ·rename_i hx
   simp only [Option.some.injEq] at h;subst h
   simp [execOp,hop,C0 ha hx,Op.unary]
  ·rename_i hx
   simp only [Option.some.injEq] at h;subst h
   simp [execOp,hop,C0 ha hx,Op.unary,Op.intArith]
  ·cases h
 ·split at h
  ·rename_i hx
   simp only [execOp,hop,C0 ha hx,Instr.extract,h]
   simp
  ·cases h
 ·split at h
  ·rename_i h1 h2
   simp only [Option.some.injEq] at h;subst h
   simp only [execOp,hop,A6l ha h1,A6l ha h2,Instr.makeFunc]
   rfl
  ·cases h
 ·split at h
  ·rename_i hc hx ht
   unfold C5t at h
   split at h
   ·rename_i hu hv
    simp only [Option.some.injEq] at h;subst h
    simp [execOp,hop,resolve,hc,hx,ht,C0 ha hv,invoke,builtin,Builtin.len_,run_underlying hu,goInt]
   ·rename_i hu hv
    simp only [Option.some.injEq] at h;subst h
    simp [execOp,hop,resolve,hc,hx,ht,C0 ha hv,invoke,builtin,Builtin.len_,run_underlying hu,goInt]
   ·cases h
  ·rename_i hc hx
   exact C9b ha hop (.inl ⟨hc,rfl⟩) hx h w
  ·rename_i hc hx
   exact C9b ha hop (.inr ⟨hc,rfl⟩) hx h w
  ·cases h
 ·split at h
  ·rename_i hx
   simp only [Option.some.injEq] at h;subst h
   simp [execOp,hop,C0 ha hx]
  ·cases h
 ·split at h
  ·rename_i hS hT hx
   simp only [Option.some.injEq] at h;subst h
   simp [execOp,hop,C0 ha hx,convert,run_underlying hT,run_underlying hS,Conv.intToInt]
  ·cases h
 ·split at h
  ·rename_i hu hx
   split at h
   ·rename_i hf
    split at h
    ·rename_i hi
     split at h
     ·cases h
     ·rename_i hz
      simp only [Option.some.injEq] at h;subst h
      simp [execOp,hop,Instr.fieldAt,C0 ha hx,run_underlying hu,hf,Instr.sureAddr,fieldPlace,A0y hi,hz]
    ·cases h
   ·cases h
  ·cases h
 ·split at h
  ·rename_i hu hx
   split at h
   ·rename_i hf
    split at h
    ·rename_i h1 h2
     simp only [Option.some.injEq] at h;subst h
     simp [execOp,hop,Instr.field,C0 ha hx,run_underlying hu,hf,asAgg,part,B0k h1,A0y h2]
    ·rename_i h1 h2
     simp only [Option.some.injEq] at h;subst h
     simp [execOp,hop,Instr.field,C0 ha hx,run_underlying hu,hf,asAgg,part,B0k h1,A0y h2]
    ·rename_i d i h3 h4 h1 h2
     have hag:(isAgg _).run P w=.ok false w:=(B0k h1 w).trans (by
      cases d with
      | struct fs=>exact absurd rfl (h3 fs)
      | array l e=>exact absurd rfl (h4 l e)
      | _=>rfl)
     simp [execOp,hop,Instr.field,C0 ha hx,run_underlying hu,hf,asAgg,part,hag,h]
    ·cases h
   ·cases h
  ·cases h
 ·cases h
end
end Go.Fen
set_option linter.unusedVariables false
set_option linter.unusedSimpArgs false
namespace Go.Fen
open Go Go.RowKit
section
variable {P:Program} {n:Nat} {X:Cx} {K:Act→World→Prop} {Q:Exit→Act→World→Prop} {E E':Env} {L L':Own} {Φ Φ':List Pers}
def A5y (P:Program) (n:Nat) (ops:Array Oper) (o:Oper) (E:Env):Option Env :=
 match A6h ops o E,X5 n o.dst with
 | some true,true=>match B0g P E o.op with
  | some v=>some (Env.put E o.dst v)
  | none=>none
 | some false,true=>some (Env.put E o.dst undef)
 | _,_=>none
def A1u (P:Program) (n:Nat) (ops:Array Oper):Nat→Nat→Env→Option Env
 | 0,_,E=>some E
 | m+1,i,E=>match ops[i]? with
  | some o=>match A5y P n ops o E with
   | some E'=>A1u P n ops m (i+1) E'
   | none=>none
  | none=>none
def B1s (E:Env):Env→Option Env
 | []=>some []
 | (t,_)::rest=>match E.lookup t,B1s E rest with
  | some v,some r=>some ((t,v)::r)
  | _,_=>none
theorem B0m:∀ {E' R:Env},B1s E E'=some R→J0 E R
 | [],R,h=>by simp [B1s] at h;subst h;trivial
 | (t,u)::rest,R,h=>by
  unfold B1s at h
  split at h
  ·rename_i v r hv hr
   simp only [Option.some.injEq] at h;subst h
   exact ⟨hv,B0m hr⟩
  ·cases h
def C9h (P:Program) (n:Nat) (ops:Array Oper) (m i:Nat) (E E':Env):Option Env:=match A1u P n ops m i E with | some R=>B1s R E' | none=>none
theorem I9.pure {o:Oper} {v:Value} (h:B0g P E o.op=some v):I9 P X o E L Φ v:=fun a w ha _=>B7k h a w ha
theorem I9.det {o:Oper} {v:Value} (h:I9 P X o E L Φ v):Det P X o E L Φ v:=.of_run h
theorem Det.pure {o:Oper} {v:Value} (h:B0g P E o.op=some v):Det P X o E L Φ v:=(I9.pure h).det
theorem C9r {ops:Array Oper} {m:Nat}:∀ (k i:Nat) {E R:Env},A1u P n ops k i E=some R→JI P n X ops (i+k) m K Q R L Φ→JI P n X ops i (k+m) K Q E L Φ
 | 0,i,E,R,h,k=>by simp [A1u] at h;subst h;rw [Nat.zero_add];exact k
 | c+1,i,E,R,h,k=>by
  unfold A1u at h
  split at h
  ·rename_i o ho
   split at h
   ·rename_i E1 h1
    have k':JI P n X ops (i+1) (c+m) K Q E1 L Φ:=C9r c (i+1) h (by rw [Nat.add_right_comm];exact k)
    rw [Nat.add_right_comm]
    unfold A5y at h1
    split at h1
    ·rename_i hr hd
     split at h1
     ·rename_i v hv
      simp only [Option.some.injEq] at h1;subst h1
      exact C0m ho hr hd (.pure hv) k'
     ·cases h1
    ·rename_i hr hd
     simp only [Option.some.injEq] at h1;subst h1
     exact C5l ho hr hd k'
    ·cases h1
   ·cases h
  ·cases h
def JD (P:Program) (n:Nat) (X:Cx) (ops:Array Oper) (i m:Nat) (K:Act→World→Prop) (E:Env) (L:Own) (Φ:List Pers):Prop :=
 ∀ a,a.tmps.size=n→a.defers=X.marks→Has a E→wpQuiet P ops (StW X L Φ) (fun a'=>∀ w',StW X L Φ w'→K a' w') ((ops.toList.drop i).take m) a
theorem StW.drawn {w:World} (h:StW X L Φ w) (k:Nat):StW X L Φ {w with drawn:=k} :=
 let ⟨p,hp⟩:=h;⟨p,⟨hp.facts,hp.sub,hp.le,hp.dom,hp.own,hp.may,⟨hp.kept.os,hp.kept.tape,hp.kept.output,hp.kept.size,hp.kept.block⟩,hp.res⟩⟩
theorem B8g {ρ:Option Nat} {o:Oper} {a:Act} {C:World→Prop} {K:Act→Prop} {K':Act→World→Prop} {Q':Exit→Act→World→Prop} {w:World} (hw:C w) (h:∀ a w',C w'→K a→K' a w')
  (hh:o.quietIn (FW ρ) 0 P a C K):o.wpIn (FW ρ) 0 P a w K' Q':=by
 obtain ⟨v,h1,h2⟩:=hh
 have h3:=h1 w hw
 unfold Oper.quietAtIn at h3
 have hnd:B2r o.op=false:=by
  cases ho:o.op with
  | defer c =>
   exfalso
   have:(execOp a.eval o).run P w=Result.andThen ((resolve a.eval c o.type).run P w) fun d=>(pure (Next.defer d):Sem Next).run P:=by
    simp [execOp,ho]
    rfl
   rw [this] at h3
   cases hr:(resolve a.eval c o.type).run P w with
   | ok d w'=>rw [hr] at h3;exact h3.elim
   | halt x w'=>rw [hr] at h3;exact h3.elim
  | _=>rfl
 refine ⟨fun _ _=>trivial,?_⟩
 rw [Oper.semAt_eq _ _ _ (fun c hc=>by rw [hc] at hnd;cases hnd)]
 generalize (execOp a.eval o).run P w=r at *
 cases r with
 | ok x w' =>
  cases x<;>simp only [Oper.quietUponIn] at h3<;>simp only [Oper.uponIn]
  case value u =>
   obtain ⟨e1,e2⟩:=h3
   rw [e1,e2]
   exact h _ _ hw h2
  case skip =>
   obtain ⟨e1,e2⟩:=h3
   rw [e1,← e2]
   exact h _ _ hw h2
  case enter f args =>
   obtain ⟨e1,hd,hc⟩:=h3
   rw [e1]
   exact ⟨hd,hc.mono fun e w'' ⟨he,hw''⟩=>by subst he;exact h _ _ hw'' h2⟩
 | halt x w'=>simp only [Oper.quietUponIn] at h3
theorem B5a {ρ:Option Nat} {ops:Array Oper} {C:World→Prop} {i:Nat} {a:Act} {K:Act→Prop} {K':Act→World→Prop} {Q':Exit→Act→World→Prop} {w:World} (hC:C w) (h:∀ a w',C w'→K a→K' a w')
  (hh:qOpIn (FW ρ) 0 P ops C i K a):wpOpIn (FW ρ) 0 P ops Q' i K' a w:=by
 unfold qOpIn at hh
 unfold wpOpIn
 split
 ·rename_i ho;simp only [ho] at hh;exact h _ _ hC hh
 ·rename_i o ho
  simp only [ho] at hh
  obtain ⟨ha,hh⟩:=hh
  split
  ·rename_i hw;simp only [hw,if_true] at hh;exact B8g hC h hh
  ·rename_i hw;simp only [hw] at hh;exact ⟨ha w hC,h _ _ hC hh⟩
theorem B0i {ρ:Option Nat} {md:Region.Mode} {ops:Array Oper} {C:World→Prop} {R:Act→Prop} {Q':Exit→Act→World→Prop} (hQ:∀ a w,C w→R a→Q' .normal a w):∀ (fuel:Nat) (listed:Array Bool) (a:Act) (w:World),C w →
  wpAnyQIn (FW ρ) 0 P md ops C R fuel listed a→wpAnyIn (FW ρ) 0 P md ops Q' fuel listed a w
 | 0,_,_,_,hw,h=>⟨h.1,hQ _ _ hw h.2⟩
 | fuel+1,_,_,_,hw,h=>⟨fun h0=>hQ _ _ hw (h.1 h0),fun i hi=>B5a hw (fun a' w' hw'=>B0i hQ fuel _ a' w' hw') (h.2 i hi)⟩
theorem B5w {ρ:Option Nat} {ops:Array Oper} {C:World→Prop} {R:Act→Prop}:∀ (l:List Oper) (a:Act),wpQuiet P ops C R l a→wpQuietIn (FW ρ) 0 P ops C R l a
 | [],a,h=>h
 | o::l,a,h=>by
  unfold wpQuiet at h
  unfold wpQuietIn
  refine ⟨fun _ _ _ _=>trivial,?_⟩
  split
  ·rename_i hw
   rw [if_pos hw] at h
   obtain ⟨v,h1,h2⟩:=h
   refine ⟨v,fun w hC=>?_,B5w l _ h2⟩
   have h3:=h1 w hC
   unfold Oper.quietAt at h3
   unfold Oper.quietAtIn
   generalize (execOp a.eval o).run P w=r at *
   cases r with
   | ok x w' =>
    cases x with
    | value u=>exact h3
    | skip=>exact h3
    | enter f args=>exact ⟨h3.1,A6b,A9w h3.2⟩
    | _=>exact h3.elim
   | halt x w'=>exact h3.elim
  ·rename_i hw
   rw [if_neg hw] at h
   exact B5w l _ h
theorem C1g {ρ:Option Nat} {id:Nat} {ops:Array Oper} {C:World→Prop} {R:Act→World→Prop} {a:Act} {w:World} {Q:Exit→Act→World→Prop} (hm:P.follows .mixedOrders=true) (hB:Region.lexB .any ops=true) (hC:C {w with drawn:=w.drawn+1})
  (h:wpQuiet P ops C (fun a'=>∀ w',C w'→R a' w') ops.toList a) (hR:∀ a' w',R a' w'→Q .normal a' w'):(Code.region id ops true).wpIn (FW ρ) 0 P Q a w:=by
 simp only [Region.lexB,Bool.and_eq_true] at hB
 refine wpIn_region_any hm (B0i (R:=fun a'=>∀ w',C w'→R a' w') (fun _ w' hw' h=>hR _ _ (h w' hw')) _ _ _ _ hC ?_)
 have:=wpAnyQIn_lex (F:=FW ρ) (n:=0) (C:=C) (md:=.any) hB.1 ops.toList 0 (Array.replicate ops.size false) a (by simp) (by simpa using hB.2) (B5w _ _ h)
 simpa using this
theorem B6n {id:Nat} {ops:Array Oper} (m:Nat) (hm:P.follows .mixedOrders=true) (hB:Region.lexB .any ops=true) (hz:ops.size=m) (h:JD P n X ops 0 m (Q .normal) E L Φ):J P n X (.region id ops true) Q E L Φ :=
 fun a w hs=>C1g (C:=StW X L Φ) hm hB (hs.world.drawn _) (by
  have:=h a hs.size hs.defers hs.has
  rwa [List.drop_zero,List.take_of_length_le (by simp [← hz])] at this) (fun _ _ h=>h)
theorem A9r {ops:Array Oper} {i:Nat} (h:JQ n X K E L Φ):JD P n X ops i 0 K E L Φ:=fun a hn hd ha=>by
 rw [List.take_zero];exact wpQuiet_nil fun w' hw'=>h a w' ⟨hn,hd,ha,hw'⟩
theorem Has.putO {a:Act} (h:Has a E) {d:Option Nat} (hd:X5 n d=true) (hn:a.tmps.size=n) (v:Value):Has (a.put d v) (Env.put E d v):=by
 cases d with
 | none=>exact h
 | some d=>exact h.put (by rw [hn];simpa [X5,Nat.blt_eq] using hd) v
theorem B9z {ops:Array Oper} {i m:Nat} {o:Oper} {v:Value} (ho:ops[i]?=some o) (hg:A6h ops o E=some true) (hd:X5 n o.dst=true)
  (ht:Det P X o E L Φ v) (h:JD P n X ops (i+1) m K (Env.put E o.dst v) L Φ):JD P n X ops i (m+1) K E L Φ:=by
 intro a hn hdf ha
 rw [A5o ho,List.take_succ_cons]
 unfold wpQuiet
 rw [if_pos (X7 ha hg)]
 exact ⟨v,ht a ha,h _ (by rw [Act.put_size,hn]) (by rw [Act.put_defers',hdf]) (ha.putO hd hn v)⟩
theorem C6m {ops:Array Oper} {i m:Nat} {o:Oper} (ho:ops[i]?=some o) (hg:A6h ops o E=some false) (hd:X5 n o.dst=true)
  (h:JD P n X ops (i+1) m K (Env.put E o.dst undef) L Φ):JD P n X ops i (m+1) K E L Φ:=by
 intro a hn hdf ha
 rw [A5o ho,List.take_succ_cons]
 unfold wpQuiet
 rw [if_neg (by rw [X7 ha hg];simp)]
 exact h _ (by rw [Act.put_size,hn]) (by rw [Act.put_defers',hdf]) (ha.putO hd hn undef)
theorem C8q {ops:Array Oper} {m:Nat}:∀ (k i:Nat) {E R:Env},A1u P n ops k i E=some R→JD P n X ops (i+k) m K R L Φ→JD P n X ops i (k+m) K E L Φ
 | 0,i,E,R,h,k=>by simp [A1u] at h;subst h;rw [Nat.zero_add];exact k
 | c+1,i,E,R,h,k=>by
  unfold A1u at h
  split at h
  ·rename_i o ho
   split at h
   ·rename_i E1 h1
    have k':JD P n X ops (i+1) (c+m) K E1 L Φ:=C8q c (i+1) h (by rw [Nat.add_right_comm];exact k)
    rw [Nat.add_right_comm]
    unfold A5y at h1
    split at h1
    ·rename_i hr hd
     split at h1
     ·rename_i v hv
      simp only [Option.some.injEq] at h1;subst h1
      exact B9z ho hr hd (.pure hv) k'
     ·cases h1
    ·rename_i hr hd
     simp only [Option.some.injEq] at h1;subst h1
     exact C6m ho hr hd k'
    ·cases h1
   ·cases h
  ·cases h
theorem C2a {ops:Array Oper} {i m:Nat} (t:Nat) (g:Bool) (ht:E.lookup t=some (.bool g)) (h1:g=true→JD P n X ops i m K ((t,.bool true)::E) L Φ) (h2:g=false→JD P n X ops i m K ((t,.bool false)::E) L Φ):JD P n X ops i m K E L Φ:=by
 intro a hn hd ha
 cases hg:g with
 | true=>exact h1 hg a hn hd (ha.lit ht hg)
 | false=>exact h2 hg a hn hd (ha.lit ht hg)
theorem A9q {ops:Array Oper} {C:World→Prop} {R T:Act→Prop}:∀ (l1 l2:List Oper) (a:Act),wpQuiet P ops C R l1 a→(∀ a,R a→wpQuiet P ops C T l2 a)→wpQuiet P ops C T (l1++l2) a
 | [],_,a,h,hk=>hk a h
 | o::l1,l2,a,h,hk=>by
  simp only [List.cons_append,wpQuiet] at h ⊢
  have ih:=fun a h=>A9q l1 l2 a h hk
  split
  ·rename_i hw
   rw [if_pos hw] at h
   obtain ⟨v,h1,h2⟩:=h
   exact ⟨v,h1,ih _ h2⟩
  ·rename_i hw
   rw [if_neg hw] at h
   exact ih _ h
theorem A5j {ops:Array Oper} {C:World→Prop} {R:Act→World→Prop} (hC:∀ w,¬ C w):∀ (l:List Oper) (a:Act),wpQuiet P ops C (fun a'=>∀ w',C w'→R a' w') l a
 | [],_=>fun w' hw'=>absurd hw' (hC w')
 | o::l,a=>by
  unfold wpQuiet
  split
  ·exact ⟨undef,fun w hw=>absurd hw (hC w),A5j hC l _⟩
  ·exact A5j hC l _
theorem C9e {ops:Array Oper} {i:Nat} (k m:Nat) (E1:Env) (h:JD P n X ops i k (fun a _=>a.tmps.size=n∧a.defers=X.marks∧Has a E1) E L Φ)
  (h2:JD P n X ops (i+k) m K E1 L Φ):JD P n X ops i (k+m) K E L Φ:=by
 intro a hn hd ha
 by_cases hC:∃ w,StW X L Φ w
 ·obtain ⟨w,hw⟩:=hC
  rw [List.take_add,List.drop_drop]
  exact A9q _ _ a (h a hn hd ha) fun a hR=>by obtain ⟨h1,h3,h4⟩:=hR w hw;exact h2 a h1 h3 h4
 ·exact A5j (fun w hw=>hC ⟨w,hw⟩) _ _
def TypeDesc.row:TypeDesc→Bool
 | .struct _ | .array _ _=>true
 | _=>false
def TyB (P:Program) (T sz:Nat) (agg:Bool):Bool :=
 match P.info? T,P.underlying T with
 | some i,some d=>i.size == sz&&(TypeDesc.row d == agg)
 | _,_=>false
structure Ty (P:Program) (T sz:Nat) (agg:Bool):Prop where
 ok:TyB P T sz agg=true
theorem Ty.size {T sz:Nat} {agg:Bool} (h:Ty P T sz agg) (w:World):(sizeOf T).run P w=.ok sz w:=by
 have:=h.ok
 unfold TyB at this
 split at this
 ·rename_i i d hi hd
  simp only [Bool.and_eq_true,beq_iff_eq] at this
  rw [A0y hi,this.1]
 ·cases this
theorem Ty.agg {T sz:Nat} {agg:Bool} (h:Ty P T sz agg) (w:World):(isAgg T).run P w=.ok agg w:=by
 have:=h.ok
 unfold TyB at this
 split at this
 ·rename_i i d hi hd
  simp only [Bool.and_eq_true,beq_iff_eq] at this
  rw [B0k hd,← this.2]
  cases d<;>rfl
 ·cases this
theorem U3 (b o j:Nat):(⟨b,o,none⟩:Addr).add j=⟨b,o+j,none⟩:=by unfold Addr.add;split<;>simp_all
def A2v (h:Hp) (a:Addr) (us:List Value):Prop:=us=[]∨(a.spot=none∧∃ c T fr,h a.block=some (.cells c T fr)∧∀ j v,us[j]?=some v→c[a.off+j]?=some v)
def at_ (a:Addr) (us:List Value):Pers:=⟨fun h=>A2v h a us,fun hl hc=>match hc with | .inl e=>.inl e | .inr ⟨h0,c,T,fr,h1,h2⟩=>.inr ⟨h0,c,T,fr,hl _ _ h1,h2⟩⟩
theorem A2v.cell {h:Hp} {a:Addr} {us:List Value} (hc:A2v h a us) {w:World} (hs:h.sub w) {j:Nat} {v:Value} (hj:us[j]?=some v):w.cell? (a.add j)=some v:=by
 obtain ⟨b,o,sp⟩:=a
 obtain rfl | ⟨h0,c,T,fr,h1,h2⟩:=hc
 ·simp at hj
 simp only at h0 h1 h2
 subst h0
 rw [U3]
 simp [World.cell?,hs _ _ h1,h2 j v hj]
theorem A8o {T sz:Nat} (hT:Ty P T sz true) {a:Addr} {us:List Value} (hn:us.length=sz) {w:World} (hc:∀ j v,us[j]?=some v→w.cell? (a.add j)=some v) :
  (Instr.loadAt T (.pointer (some a))).run P w=.ok (.agg us.toArray) w:=by
 have hl:=run_loadCells_list (P:=P) w a us hc
 rw [hn] at hl
 simp [Instr.loadAt,Instr.sureAddr,loadVar,hT.agg,hT.size,hl]
theorem A8l {T:Nat} (hT:Ty P T 1 false) {a:Addr} {v:Value} {w:World} (hc:w.cell? (a.add 0)=some v) :
  (Instr.loadAt T (.pointer (some a))).run P w=.ok v w:=by
 have:w.cell? a=some v:=by simpa [Addr.add] using hc
 simp [Instr.loadAt,Instr.sureAddr,loadVar,hT.agg,this]
abbrev bx (b:Nat) (cs:List Value) (T:Nat):Nat×Obj:=(b,.cells cs.toArray T (0,0))
theorem B6g {p:Hp} {w:World} (h:StH X L Φ p w) {i:Nat} {e:Nat×Obj} (hi:L[i]?=some e):w.heap[e.1]?=some e.2:=(h.own.1 e (List.mem_of_getElem? hi)).1
theorem B2f {p:Hp} {w:World} (h:StH X L Φ p w) {i b T:Nat} {cs:List Value} (hi:L[i]?=some (bx b cs T)) (k:Nat):w.cell? ⟨b,k,none⟩=cs[k]?:=by
 have:=B6g h hi
 simp only at this
 simp [World.cell?,this]
theorem Q4 {o:Oper} {T sz b off TT:Nat} {x:Operand} {cs us:List Value} (hT:Ty P T sz true) (ho:o.op=.load T x) (hx:ev E x=some (.pointer (some ⟨b,off,none⟩))) (i:Nat) (hL:L[i]?=some (bx b cs TT))
  (hu:(cs.drop off).take sz=us) (hn:us.length=sz):I9 P X o E L Φ (.agg us.toArray):=.of_run fun ac w ha ⟨p,hp⟩=>by
 have:(Instr.loadAt T (.pointer (some ⟨b,off,none⟩))).run P w=.ok (.agg us.toArray) w:=A8o hT hn fun j v hj=>by
  rw [U3,B2f hp hL,← hj,← hu,List.getElem?_take,if_pos,List.getElem?_drop]
  have:=(List.getElem?_eq_some_iff.1 hj).1
  omega
 simp [execOp,ho,C0 ha hx,this]
theorem D4 {o:Oper} {T b off TT:Nat} {x:Operand} {cs:List Value} {v:Value} (hT:Ty P T 1 false) (ho:o.op=.load T x) (hx:ev E x=some (.pointer (some ⟨b,off,none⟩))) (i:Nat) (hL:L[i]?=some (bx b cs TT))
  (hu:cs[off]?=some v):I9 P X o E L Φ v:=.of_run fun ac w ha ⟨p,hp⟩=>by
 have:(Instr.loadAt T (.pointer (some ⟨b,off,none⟩))).run P w=.ok v w:=A8l hT (by rw [U3,B2f hp hL];simpa using hu)
 simp [execOp,ho,C0 ha hx,this]
end
end Go.Fen
set_option linter.unusedVariables false
set_option linter.unusedSimpArgs false
namespace Go.Fen
open Go Go.RowKit
section
variable {P:Program} {n:Nat} {X:Cx} {K:Act→World→Prop} {Q:Exit→Act→World→Prop} {E E':Env} {L L':Own} {Φ Φ':List Pers}
theorem A5s (w:World) (o:Obj) (k:Nat):(w.alloc o).heap[k]?=if k=w.heap.size then some o else w.heap[k]?:=by
 show (w.heap.push o)[k]?=_
 rw [Array.getElem?_push]
theorem Hp.lt {p:Hp} {w:World} (h:p.sub w) {b:Nat} {o:Obj} (e:p b=some o):b<w.heap.size:=(Array.getElem?_eq_some_iff.1 (h b o e)).1
theorem C6t {p:Hp} {w:World} (h:p.sub w) (o:Obj):p.sub (w.alloc o):=fun b u e=>by
 rw [A5s,if_neg (Nat.ne_of_lt (Hp.lt h e))];exact h b u e
theorem A0i.lt {p:Hp} {w:World} (h:A0i L p w) {e:Nat×Obj} (he:e ∈ L):e.1<w.heap.size:=(Array.getElem?_eq_some_iff.1 (h.1 e he).1).1
theorem A0i.alloc {p:Hp} {w:World} (h:A0i L p w) (hs:p.sub w) (o:Obj):A0i ((w.heap.size,o)::L) p (w.alloc o):=by
 constructor
 ·intro e he
  rcases List.mem_cons.1 he with rfl | he
  ·refine ⟨by rw [A5s,if_pos rfl],?_⟩
   cases hp:p w.heap.size with
   | none=>rfl
   | some u=>exact absurd (Hp.lt hs hp) (Nat.lt_irrefl _)
  ·have:=h.1 e he
   exact ⟨by rw [A5s,if_neg (Nat.ne_of_lt (h.lt he))];exact this.1,this.2⟩
 ·simp only [List.map_cons,List.nodup_cons]
  refine ⟨fun hm=>?_,h.2⟩
  obtain ⟨e,he,e1⟩:=List.mem_map.1 hm
  have:=h.lt he
  omega
theorem KeptBut.alloc {M:List Nat} {a w:World} (h:KeptBut M a w) (o:Obj):KeptBut M a (w.alloc o) :=
 ⟨h.os,h.tape,h.output,by have:=h.size;simp;omega,fun k hk hm=>by rw [A5s,if_neg (by have:=h.size;omega)];exact h.block k hk hm⟩
theorem StW.alloc {w:World} (h:StW X L Φ w) (o:Obj):StW X ((w.heap.size,o)::L) Φ (w.alloc o) :=
 let ⟨p,hp⟩:=h
 ⟨p,⟨hp.facts,C6t hp.sub o,hp.le,hp.dom,hp.own.alloc hp.sub o,fun e he=>by
  rcases List.mem_cons.1 he with rfl | he
  ·exact .inr hp.kept.size
  ·exact hp.may e he,hp.kept.alloc o,fun d hd=>by
  obtain ⟨h1,h2,h3,h4⟩:=hp.res d hd
  have hlt:=(Array.getElem?_eq_some_iff.1 h1).1
  refine ⟨by rw [A5s,if_neg (by omega)];exact h1,h2,fun e he=>?_,h4⟩
  rcases List.mem_cons.1 he with rfl | he
  ·simp only;omega
  ·exact h3 e he⟩⟩
def blk (b:Nat) (o:Obj):Pers:=⟨fun h=>h b=some o,fun hl e=>hl _ _ e⟩
theorem C0s {o:Oper} {T:Nat} {x:Operand} {v:Value} {cs:List Value} (ho:o.op=.box T x) (hx:ev E x=some v) (hc:v.cells=cs.toArray) :
  Tri P n X o E L Φ Nat (fun b=>.pointer (some ⟨b,0,none⟩)) (fun b=>bx b cs T::L) (fun _=>Φ):=by
 intro a w K Q hs hk
 have hr:(execOp a.eval o).run P w=.ok (.value (.pointer (some ⟨w.heap.size,0,none⟩))) (w.alloc (.cells cs.toArray T (0,0))):=by
  simp [execOp,ho,C0 hs.has hx,Instr.box,newVar,newRow,hc]
 refine A3b (by rw [ho];rfl) ?_
 unfold Oper.wp
 rw [hr]
 exact hk w.heap.size _ (hs.world.alloc _)
structure Zero (P:Program) (T:Nat) (cs:List Value):Prop where
 ok:((P.info? T).bind (·.zero)).map (·.cells)=some cs.toArray
theorem Zero.run {T:Nat} {cs:List Value} (h:Zero P T cs) (w:World):∃ v,(zeroValue T).run P w=.ok v w∧v.cells=cs.toArray:=by
 obtain ⟨v,hv,hc⟩:=Option.map_eq_some_iff.1 h.ok
 obtain ⟨i,hi,hz⟩:=Option.bind_eq_some_iff.1 hv
 exact ⟨v,by simp [zeroValue,B0a hi,hz],hc⟩
theorem B0o {o:Oper} {T:Nat} {cs:List Value} (hz:Zero P T cs) (ho:o.op=.alloc T) :
  Tri P n X o E L Φ Nat (fun b=>.pointer (some ⟨b,0,none⟩)) (fun b=>bx b cs T::L) (fun _=>Φ):=by
 intro a w K Q hs hk
 obtain ⟨v,hv,hc⟩:=hz.run w
 have hr:(execOp a.eval o).run P w=.ok (.value (.pointer (some ⟨w.heap.size,0,none⟩))) (w.alloc (.cells cs.toArray T (0,0))):=by
  simp [execOp,ho,Instr.alloc,hv,newVar,newRow,hc]
 refine A3b (by rw [ho];rfl) ?_
 unfold Oper.wp
 rw [hr]
 exact hk w.heap.size _ (hs.world.alloc _)
theorem B7g {i b:Nat} {o u:Obj} (hi:L[i]?=some (b,o)):(L.set i (b,u)).map Prod.fst=L.map Prod.fst:=by
 apply List.ext_getElem?
 intro k
 simp only [List.getElem?_map,List.getElem?_set]
 by_cases hk:i=k
 ·subst hk
  obtain ⟨h1,h2⟩:=List.getElem?_eq_some_iff.1 hi
  simp [h1,h2]
 ·simp [hk]
theorem B1m (hn:(L.map Prod.fst).Nodup) {i k b:Nat} {o u:Obj} (hi:L[i]?=some (b,o)) (hk:L[k]?=some (b,u)):i=k:=by
 have h1:(L.map Prod.fst)[i]?=some b:=by simp [hi]
 have h2:(L.map Prod.fst)[k]?=some b:=by simp [hk]
 exact (List.getElem?_inj (List.getElem?_eq_some_iff.1 h1).1 hn).1 (h1.trans h2.symm)
theorem A0i.set {p:Hp} {w w':World} (h:A0i L p w) {i b:Nat} {o u:Obj} (hi:L[i]?=some (b,o)) (hb:w'.heap[b]?=some u) (hoth:∀ k,k≠b→w'.heap[k]?=w.heap[k]?):A0i (L.set i (b,u)) p w':=by
 constructor
 ·intro e he
  obtain ⟨k,hk⟩:=List.mem_iff_getElem?.1 he
  rw [List.getElem?_set] at hk
  by_cases hik:i=k
  ·subst hik
   have:=(List.getElem?_eq_some_iff.1 hi).1
   simp [this] at hk
   subst hk
   exact ⟨hb,(h.1 _ (List.mem_of_getElem? hi)).2⟩
  ·rw [if_neg hik] at hk
   obtain ⟨k',o'⟩:=e
   have hne:k'≠b:=fun e=>hik (B1m h.2 hi (e▸hk))
   have:=h.1 _ (List.mem_of_getElem? hk)
   exact ⟨by rw [hoth _ hne];exact this.1,this.2⟩
 ·rw [B7g hi];exact h.2
theorem StW.set {w w':World} (h:StW X L Φ w) {i b:Nat} {o u:Obj} (hi:L[i]?=some (b,o)) (hb:w'.heap[b]?=some u) (hoth:∀ k,k≠b→w'.heap[k]?=w.heap[k]?)
  (hos:w'.os=w.os) (ht:w'.tape=w.tape) (hout:w'.output=w.output) (hsz:w'.heap.size=w.heap.size):StW X (L.set i (b,u)) Φ w' :=
 let ⟨p,hp⟩:=h
 have hm:=List.mem_of_getElem? hi
 ⟨p,⟨hp.facts,fun k o' e=>by
   have:k≠b:=fun e'=>by subst e';rw [(hp.own.1 _ hm).2] at e;cases e
   rw [hoth _ this];exact hp.sub k o' e,hp.le,hp.dom,hp.own.set hi hb hoth,fun e he=>by
   obtain ⟨k,hk⟩:=List.mem_iff_getElem?.1 he
   rw [List.getElem?_set] at hk
   by_cases hik:i=k
   ·subst hik
    have:=(List.getElem?_eq_some_iff.1 hi).1
    simp [this] at hk
    subst hk
    exact hp.may (b,o) hm
   ·rw [if_neg hik] at hk
    exact hp.may _ (List.mem_of_getElem? hk),
  ⟨hos.trans hp.kept.os,ht.trans hp.kept.tape,hout.trans hp.kept.output,by rw [hsz];exact hp.kept.size,fun k hk hm'=>by
   have hne:k≠b:=by
    rintro rfl
    rcases hp.may (k,o) hm with h1 | h1
    ·exact hm' h1
    ·simp only at h1;omega
   rw [hoth k hne];exact hp.kept.block k hk hm'⟩,fun d hd=>by
   obtain ⟨h1,h2,h3,h4⟩:=hp.res d hd
   refine ⟨by rw [hoth d.1 (fun e'=>h3 _ hm e'.symm)];exact h1,h2,fun e he=>?_,h4⟩
   obtain ⟨k,hk⟩:=List.mem_iff_getElem?.1 he
   rw [List.getElem?_set] at hk
   by_cases hik:i=k
   ·subst hik
    have:=(List.getElem?_eq_some_iff.1 hi).1
    simp [this] at hk
    subst hk
    exact h3 (b,o) hm
   ·rw [if_neg hik] at hk
    exact h3 _ (List.mem_of_getElem? hk)⟩⟩
def X3 (cs us:List Value) (off:Nat):List Value:=cs.take off++us++cs.drop (off+us.length)
theorem N3 {o:Oper} {T sz b off TT:Nat} {agg:Bool} {x y:Operand} {v:Value} {cs us cs':List Value} (hT:Ty P T sz agg) (ho:o.op=.store T x y) (hx:ev E x=some (.pointer (some ⟨b,off,none⟩))) (hy:ev E y=some v)
  (i:Nat) (hL:L[i]?=some (bx b cs TT)) (hv:v.cells=us.toArray) (hn:us.length=sz) (hb:us.all (·.oneCell')=true) (hc:X3 cs us off=cs') (hl:Nat.ble (off+sz) cs.length=true) :
  Tri P n X o E L Φ Unit (fun _=>undef) (fun _=>L.set i (bx b cs' TT)) (fun _=>Φ):=by
 intro a w K Q hs hk
 obtain ⟨p,hp⟩:=hs.world
 have hg:w.heap[b]?=some (.cells cs.toArray TT (0,0)):=B6g hp hL
 have hl':off+us.length≤cs.length:=by rw [hn];exact Nat.le_of_ble_eq_true hl
 have hst:=run_storeCells_at P b off TT us 0 cs.toArray w hg (by simpa using hl') (fun v hv=>by simpa using List.all_eq_true.1 hb v hv)
 have hr:(execOp a.eval o).run P w=.ok .skip (w.setRow b cs'.toArray):=by
  have hsv:(storeVar T ⟨b,off,none⟩ v).run P w=.ok () (w.setRow b cs'.toArray):=by
   have hst':(storeCells ⟨b,off,none⟩ us).run P w=.ok () (w.setRow b cs'.toArray):=by rw [hst,← hc];simp [X3]
   simp only [storeVar,Sem.run_bind,hT.size,Result.andThen_ok,hv,List.size_toArray,hn,ne_eq,not_true_eq_false,if_false,hst']
  simp [execOp,ho,C0 hs.has hx,C0 hs.has hy,Instr.storeAt,Instr.sureAddr,hsv]
 refine A3b (by rw [ho];rfl) ?_
 unfold Oper.wp
 rw [hr]
 refine hk () _ (hs.world.set hL (setRow_heap w b _ _ TT (0,0) hg) (fun k hk=>setRow_other w b k _ hk) rfl rfl rfl (by simp))
def C7r {α:Type}:List Bool→List α→List α
 | true::m,x::xs=>x::C7r m xs
 | false::m,_::xs=>C7r m xs
 | _,_=>[]
theorem B2h {α:Type}:∀ (m:List Bool) (xs:List α),(C7r m xs).Sublist xs
 | true::m,x::xs=>(B2h m xs).cons_cons x
 | false::m,x::xs=>(B2h m xs).cons x
 | [],_=>List.nil_sublist _
 | true::_,[]=>List.nil_sublist _
 | false::_,[]=>List.nil_sublist _
theorem mk {α:Type} {L L':List α} (m:List Bool) (h:C7r m L=L'):L'.Sublist L:=h▸B2h m L
theorem A0i.sub {p:Hp} {w:World} (h:A0i L p w) (hs:L'.Sublist L):A0i L' p w:=⟨fun e he=>h.1 e (hs.subset he),(hs.map Prod.fst).nodup h.2⟩
theorem StW.sub {w:World} (h:StW X L Φ w) (hs:L'.Sublist L):StW X L' Φ w :=
 let ⟨p,hp⟩:=h;⟨p,⟨hp.facts,hp.sub,hp.le,hp.dom,hp.own.sub hs,fun e he=>hp.may e (hs.subset he),hp.kept,fun d hd=>let ⟨h1,h2,h3,h4⟩:=hp.res d hd;⟨h1,h2,fun e he=>h3 e (hs.subset he),h4⟩⟩⟩
theorem C9v {α:Type} {xs ys:List α} {is:List Nat} (h:is.mapM (xs[·]?)=some ys):∀ y ∈ ys,y ∈ xs:=by
 induction is generalizing ys with
 | nil=>simp at h;subst h;intro y hy;cases hy
 | cons i is ih =>
  simp only [List.mapM_cons,Option.bind_eq_bind,Option.bind_eq_some_iff] at h
  obtain ⟨v,hv,us,hus,h⟩:=h
  simp only [Option.pure_def,Option.some.injEq] at h
  subst h
  intro y hy
  rcases List.mem_cons.1 hy with rfl | hy
  ·exact List.mem_of_getElem? hv
  ·exact ih hus y hy
def A2 (Φ Φ':List Pers):Prop:=∀ p:Hp,(∀ q ∈ Φ,q.p p)→∀ q ∈ Φ',q.p p
theorem A2.pick (is:List Nat) (h:is.mapM (Φ[·]?)=some Φ'):A2 Φ Φ':=fun _ hp q hq=>hp q (C9v h q hq)
theorem A2.nil:A2 Φ []:=fun _ _ _ h=>by cases h
theorem fn0:A2 Φ []:=A2.nil
theorem A2.refl:A2 Φ Φ:=fun _ h=>h
theorem A2.cons {q:Pers} (hq:∀ p:Hp,(∀ q ∈ Φ,q.p p)→q.p p) (h:A2 Φ Φ'):A2 Φ (q::Φ'):=fun p hp q' hq'=>by
 rcases List.mem_cons.1 hq' with rfl | hq'
 ·exact hq p hp
 ·exact h p hp q' hq'
theorem StW.foll {w:World} (h:StW X L Φ w) (hf:A2 Φ Φ'):StW X L Φ' w:=let ⟨p,hp⟩:=h;⟨p,⟨hf p hp.facts,hp.sub,hp.le,hp.dom,hp.own,hp.may,hp.kept,hp.res⟩⟩
theorem StW.freeze {w:World} (h:StW X L Φ w) {i b:Nat} {o:Obj} (hi:L[i]?=some (b,o)):StW X (L.eraseIdx i) (blk b o::Φ) w:=by
 obtain ⟨p,hp⟩:=h
 have hm:=List.mem_of_getElem? hi
 have hb:=hp.own.1 _ hm
 have hnot:∀ e ∈ L.eraseIdx i,e.1≠b:=by
  intro e he hb'
  obtain ⟨k,hk⟩:=List.mem_iff_getElem?.1 he
  rw [List.getElem?_eraseIdx] at hk
  obtain ⟨e1,e2⟩:=e
  simp only at hb'
  subst hb'
  split at hk
  ·have:=B1m hp.own.2 hi hk;omega
  ·have:=B1m hp.own.2 hi hk;omega
 refine ⟨fun k=>if k=b then some o else p k,⟨?_,?_,?_,?_,?_,?_,hp.kept,fun d hd=>let ⟨h1,h2,h3,h4⟩:=hp.res d hd;⟨h1,by simp only [if_neg (fun e':d.1=b=>h3 _ hm e'.symm)];exact h2,fun e he=>h3 e ((List.eraseIdx_sublist _ _).subset he),h4⟩⟩⟩
 ·have hle:p.le (fun k=>if k=b then some o else p k):=fun k u e=>by
   have:k≠b:=fun e'=>by subst e';rw [hb.2] at e;cases e
   simp only [if_neg this];exact e
  intro q hq
  rcases List.mem_cons.1 hq with rfl | hq
  ·simp [blk]
  ·exact q.mono hle (hp.facts q hq)
 ·intro k u e
  by_cases hk:k=b
  ·subst hk;simp at e;subst e;exact hb.1
  ·simp only [if_neg hk] at e;exact hp.sub k u e
 ·intro k u e
  have:=hp.le k u e
  have hk:k≠b:=fun e'=>by subst e';rw [hb.2] at this;cases this
  simp only [if_neg hk];exact this
 ·intro k hk
  by_cases hkb:k=b
  ·subst hkb;exact .inr (hp.may _ hm)
  ·simp only [if_neg hkb] at hk;exact hp.dom k hk
 ·exact ⟨fun e he=>⟨((hp.own.sub (List.eraseIdx_sublist _ _)).1 e he).1,by simp only [if_neg (hnot e he)];exact (hp.own.1 e ((List.eraseIdx_sublist _ _).subset he)).2⟩,(hp.own.sub (List.eraseIdx_sublist _ _)).2⟩
 ·exact fun e he=>hp.may e ((List.eraseIdx_sublist _ _).subset he)
end
end Go.Fen
set_option linter.unusedVariables false
set_option linter.unusedSimpArgs false
namespace Go.Fen
open Go Go.RowKit
structure HasBody (P:Program) (f:FuncId):Prop where
 ok : ((P.funcs[f]?).map fun fn => !fn.body.isNone && !(fn.name == "runtime.NumGoroutine")) = some true
abbrev cx (w:World) (h:Hp) (M:List Nat):Cx:=⟨w,h,M,none,[]⟩
def Con (P:Program) (f:FuncId) (args:List Value) (L0:Own) (Φ0:List Pers) (α:Type) (val:α→Value) (L1:α→Own) (Φ1:α→List Pers):Prop :=
 HasBody P f∧∀ (w:World) (h:Hp),(∀ q ∈ Φ0,q.p h)→h.sub w→A0i L0 h w →
  Calls P f args.toArray w fun e w'=>∃ x,e=.returned (val x)∧StW (cx w h (L0.map Prod.fst)) (L1 x) (Φ1 x) w'
abbrev I6 (P:Program) (f:FuncId) (args:List Value) (Φ0:List Pers) (v:Value):Prop:=Con P f args [] Φ0 Unit (fun _=>v) (fun _=>[]) (fun _=>[])
section
variable {P:Program} {n:Nat} {X:Cx} {K:Act→World→Prop} {Q:Exit→Act→World→Prop} {E E':Env} {L L':Own} {Φ Φ':List Pers}
def Res (P:Program) (n:Nat) (X:Cx) (fn:Func) (E:Env) (L:Own) (Φ:List Pers) (v:Value):Prop:=∀ a w,St n X E L Φ a w→(results fn a.tmps).run P w=.ok v w
def B7e (tmps:Array Value):ResultVar→Sem Value
 | .tmp t=>pure (tmps.getD t undef)
 | .cell t T=>do loadVar T (← asAddr (tmps.getD t undef))
theorem A6a (fn:Func) (tmps:Array Value):results fn tmps=(do
  let vs ← fn.results.mapM (B7e tmps)
  pure (if h:vs.size=1 then vs[0] else .tuple vs)):=by
 unfold results
 rfl
def B3e (P:Program) (n:Nat) (X:Cx) (r:ResultVar) (E:Env) (L:Own) (Φ:List Pers) (v:Value):Prop:=∀ a w,St n X E L Φ a w→(B7e a.tmps r).run P w=.ok v w
theorem B1 {t:Nat} {v:Value} (h:E.lookup t=some v):B3e P n X (.tmp t) E L Φ v:=fun a w hs=>by
 have:=hs.has _ _ h
 simp [B7e,this]
theorem Has.getD {a:Act} (ha:Has a E) {t:Nat} {v:Value} (h:E.lookup t=some v):a.tmps.getD t undef=v:=by
 have:=ha _ _ h
 simp [this]
theorem I1 {t T sz b:Nat} {off TT:Nat} {cs us:List Value} (hT:Ty P T sz true) (h:E.lookup t=some (.pointer (some ⟨b,off,none⟩))) (i:Nat) (hL:L[i]?=some (bx b cs TT)) (hu:(cs.drop off).take sz=us) (hn:us.length=sz) :
  B3e P n X (.cell t T) E L Φ (.agg us.toArray):=fun a w hs=>by
 obtain ⟨p,hp⟩:=hs.world
 have hr:(Instr.loadAt T (.pointer (some ⟨b,off,none⟩))).run P w=.ok (.agg us.toArray) w:=A8o hT hn fun j v hj=>by
  rw [U3,B2f hp hL,← hj,← hu,List.getElem?_take,if_pos,List.getElem?_drop]
  have:=(List.getElem?_eq_some_iff.1 hj).1
  omega
 have hr':(loadVar T ⟨b,off,none⟩).run P w=.ok (.agg us.toArray) w:=by simpa [Instr.loadAt,Instr.sureAddr] using hr
 simp only [B7e,hs.has.getD h,asAddr,Sem.run_bind,Sem.run_pure,Result.andThen_ok,hr']
theorem C4n {t T b:Nat} {off TT:Nat} {cs:List Value} {v:Value} (hT:Ty P T 1 false) (h:E.lookup t=some (.pointer (some ⟨b,off,none⟩))) (i:Nat) (hL:L[i]?=some (bx b cs TT)) (hu:cs[off]?=some v) :
  B3e P n X (.cell t T) E L Φ v:=fun a w hs=>by
 obtain ⟨p,hp⟩:=hs.world
 have hr:(Instr.loadAt T (.pointer (some ⟨b,off,none⟩))).run P w=.ok v w:=A8l hT (by rw [U3,B2f hp hL];simpa using hu)
 have hr':(loadVar T ⟨b,off,none⟩).run P w=.ok v w:=by simpa [Instr.loadAt,Instr.sureAddr] using hr
 simp only [B7e,hs.has.getD h,asAddr,Sem.run_bind,Sem.run_pure,Result.andThen_ok,hr']
theorem B0s {fn:Func} (hf:fn.results=#[]):Res P n X fn E L Φ (.tuple #[]):=fun a w _=>by simp [A6a,hf]
theorem P3 {fn:Func} {r:ResultVar} {v:Value} (hf:fn.results=#[r]) (h:B3e P n X r E L Φ v):Res P n X fn E L Φ v:=fun a w hs=>by
 simp [A6a,hf,h a w hs]
theorem V5 {fn:Func} {r s:ResultVar} {v u:Value} (hf:fn.results=#[r,s]) (h:B3e P n X r E L Φ v) (k:B3e P n X s E L Φ u):Res P n X fn E L Φ (.tuple #[v,u]):=fun a w hs=>by
 simp [A6a,hf,h a w hs,k a w hs]
theorem C8z {fn:Func} {r s t:ResultVar} {v u x:Value} (hf:fn.results=#[r,s,t]) (h:B3e P n X r E L Φ v) (k:B3e P n X s E L Φ u) (l:B3e P n X t E L Φ x):Res P n X fn E L Φ (.tuple #[v,u,x]):=fun a w hs=>by
 simp [A6a,hf,h a w hs,k a w hs,l a w hs]
def C2f (P:Program) (X:Cx) (fn:Func) (α:Type) (val:α→Value) (L1:α→Own) (Φ1:α→List Pers):Exit→Act→World→Prop :=
 bodyPostM (FW none) 0 P fn fun e w'=>∃ x,e=.returned (val x)∧StW X (L1 x) (Φ1 x) w'
theorem C9l {f:FuncId} {fn:Func} {c:Code} {args:List Value} {L0:Own} {Φ0:List Pers} {α:Type} {val:α→Value} {L1:α→Own} {Φ1:α→List Pers}
  (hf : P.funcs[f]? = some fn) (hb : fn.body = some c) (hnm : (fn.name == "runtime.NumGoroutine") = false) (hn : fn.ntmps = n) (hle : Nat.ble args.length n = true) (E0 : Env) (hE : J0 ((List.range args.length).zip args) E0)
  (h:∀ X:Cx,X.M=L0.map Prod.fst→X.rho=none→X.D=[]→J P n X c (C2f P X fn α val L1 Φ1) E0 L0 Φ0):Con P f args L0 Φ0 α val L1 Φ1:=by
 refine ⟨⟨by simp [hf,hb,hnm]⟩,fun w p hp hs ho=>?_⟩
 have hle':args.length≤n:=Nat.le_of_ble_eq_true hle
 refine (callsIn_wide (n:=0)).1 (callsIn_of_wp_marks (F:=Fence.wide) hf hb trivial (h (cx w p (L0.map Prod.fst)) rfl rfl rfl _ w ⟨?_,rfl,?_,p,⟨hp,hs,Hp.le_refl p,fun b hb=>.inl hb,ho,fun e he=>.inl (List.mem_map_of_mem he),KeptBut.refl _ w,fun d hd=>by cases hd⟩⟩))
 ·simp [hn];omega
 ·have h1:Has {tmps:=args.toArray++Array.replicate (fn.ntmps - args.toArray.size) undef,defers:=[]} ((List.range args.length).zip args):=by
   intro t v e
   have hm:∀ (xs:List Value) (k:Nat),((List.range' k xs.length).zip xs).lookup t=some v→k≤t∧xs[t - k]?=some v:=by
    intro xs
    induction xs with
    | nil=>intro k hk;simp at hk
    | cons y ys ih =>
     intro k hk
     rw [List.length_cons,List.range'_succ,List.zip_cons_cons] at hk
     by_cases ht:t=k
     ·subst ht;simp [List.lookup] at hk;simp [hk]
     ·have:(t == k)=false:=by simpa using ht
      simp only [List.lookup,this] at hk
      obtain ⟨h1,h2⟩:=ih (k+1) hk
      refine ⟨by omega,?_⟩
      rw [show t - k=(t - (k+1))+1 by omega,List.getElem?_cons_succ]
      exact h2
   rw [List.range_eq_range'] at e
   obtain ⟨_,h2⟩:=hm args 0 e
   have h3:args[t]?=some v:=by simpa using h2
   have:=(List.getElem?_eq_some_iff.1 h3).1
   rw [Array.getElem?_append_left (by simpa using this)]
   simpa using h3
  exact h1.weaken (I2 hE)
def Cx.wd (X:Cx) (ds:List (Nat×Obj)):Cx:=⟨X.w0,X.h0,X.M,X.rho,ds⟩
theorem StW.take {w:World} {d:Nat×Obj} {ds:List (Nat×Obj)} (hd:d.1 ∉ ds.map Prod.fst) (o:Obj) (h:StW (X.wd (d::ds)) L Φ w):StW (X.wd ds) L Φ (w.putObj d.1 o):=by
 obtain ⟨p,hp⟩:=h
 obtain ⟨h1,h2,h3,h4⟩:=hp.res d (List.mem_cons_self ..)
 refine ⟨p,⟨hp.facts,fun k o e=>?_,hp.le,hp.dom,⟨fun e he=>⟨?_,(hp.own.1 e he).2⟩,hp.own.2⟩,hp.may,⟨hp.kept.os,hp.kept.tape,hp.kept.output,by rw [World.putObj_size];exact hp.kept.size,fun k hk hm=>?_⟩,fun d' hd'=>?_⟩⟩
 ·have:k≠d.1:=fun e'=>by subst e';rw [h2] at e;cases e
  rw [World.putObj_heap_other this];exact hp.sub k o e
 ·rw [World.putObj_heap_other (h3 e he)];exact (hp.own.1 e he).1
 ·have:k≠d.1:=fun e'=>by
   subst e'
   rcases h4 with h4 | h4
   ·have:X.w0.heap.size≤d.1:=h4
    have:d.1<X.w0.heap.size:=hk
    omega
   ·exact hm h4
  rw [World.putObj_heap_other this];exact hp.kept.block k hk hm
 ·have:d'.1≠d.1:=fun e'=>hd (e'▸List.mem_map_of_mem hd')
  obtain ⟨g1,g2⟩:=hp.res d' (List.mem_cons_of_mem _ hd')
  exact ⟨by rw [World.putObj_heap_other this];exact g1,g2⟩
theorem A5k {fn:Func} {tmps:Array Value} {R:Ending→World→Prop}:∀ (ds:List (Nat×Obj)),(ds.map Prod.fst).Nodup→(∀ d ∈ ds,d.2=.deferred (some []))→∀ w,StW (X.wd ds) L Φ w →
  (∀ w',StW (X.wd []) L Φ w'→∃ v,(results fn tmps).run P w'=.ok v w'∧R (.returned v) w')→LeavesInM (FW none) 0 P fn tmps R (ds.map (B5q ·.1)) .returning w
 | [],_,_,w,hw,k=>k w hw
 | d::ds,hn,ho,w,hw,k=>by
  rw [List.map_cons] at hn
  obtain ⟨h1,h2⟩:=List.nodup_cons.1 hn
  obtain ⟨p,hp⟩:=hw
  have hd:=(hp.res d (List.mem_cons_self ..)).1
  rw [ho d (List.mem_cons_self ..)] at hd
  exact ⟨by simp,.inl ⟨d.1,_,rfl,run_takeDeferred hd,A5k ds h2 (fun e he=>ho e (List.mem_cons_of_mem _ he)) _ (StW.take h1 _ ⟨p,hp⟩) k⟩⟩
theorem C2k {X':Cx} {a:Act} {w:World} {fn:Func} {α:Type} {val:α→Value} {L1:α→Own} {Φ1:α→List Pers} {v:Value} (hX:X'=X.wd X'.D) (hX0:X=X.wd []) (hrho:X.rho=none) (hnd:(X'.D.map Prod.fst).Nodup∧∀ d ∈ X'.D,d.2=.deferred (some [])) (hr:Res P n X fn E L Φ v) (x:α) (hv:val x=v) (hL:List.Sublist (L1 x) L) (hΦ:A2 Φ (Φ1 x))
  (hs:St n X' E L Φ a w):LeavesInM (FW none) 0 P fn a.tmps (fun e w'=>∃ x,e=.returned (val x)∧StW X (L1 x) (Φ1 x) w') a.defers .returning w:=by
 have hm:X'.marks=X'.D.map (B5q ·.1):=by rw [hX];unfold Cx.marks Cx.wd;simp only [hrho]
 rw [hs.defers,hm]
 refine A5k (X:=X) (L:=L) (Φ:=Φ) X'.D hnd.1 hnd.2 w (hX▸hs.world) fun w' hw'=>⟨v,?_,x,by rw [hv],?_⟩
 ·rw [hX0] at hr
  exact hr {a with defers:=[]} w' ⟨hs.size,by unfold Cx.marks Cx.wd;simp only [hrho];rfl,hs.has,hw'⟩
 ·rw [hX0];exact (hw'.sub hL).foll hΦ
theorem B2u {X':Cx} {fn:Func} {α:Type} {val:α→Value} {L1:α→Own} {Φ1:α→List Pers} {v:Value} (hX:X'=X.wd X'.D) (hX0:X.rho=none∧X.D=[]) (hnd:(X'.D.map Prod.fst).Nodup∧∀ d ∈ X'.D,d.2=.deferred (some [])) (hr:Res P n X fn E L Φ v) (x:α) (hv:val x=v) (hL:List.Sublist (L1 x) L) (hΦ:A2 Φ (Φ1 x)) :
  JQ n X' (C2f P X fn α val L1 Φ1 .ret) E L Φ:=fun a w hs=>C2k hX (by obtain ⟨w0,h0,M,r,D⟩:=X;obtain ⟨h1,h2⟩:=hX0;simp only at h1 h2;subst h1 h2;rfl) hX0.1 hnd hr x hv hL hΦ hs
theorem C2u {X':Cx} {fn:Func} {α:Type} {val:α→Value} {L1:α→Own} {Φ1:α→List Pers} {v:Value} (hX:X'=X.wd X'.D) (hX0:X.rho=none∧X.D=[]) (hnd:(X'.D.map Prod.fst).Nodup∧∀ d ∈ X'.D,d.2=.deferred (some [])) (hr:Res P n X fn E L Φ v) (x:α) (hv:val x=v) (hL:List.Sublist (L1 x) L) (hΦ:A2 Φ (Φ1 x)) :
  JQ n X' (C2f P X fn α val L1 Φ1 .normal) E L Φ:=fun a w hs=>C2k hX (by obtain ⟨w0,h0,M,r,D⟩:=X;obtain ⟨h1,h2⟩:=hX0;simp only at h1 h2;subst h1 h2;rfl) hX0.1 hnd hr x hv hL hΦ hs
theorem A0p {f:FuncId} (h:HasBody P f) (args:Array Value) (w:World):(callFunc f args).run P w=.ok (.enter f args) w:=by
 have:=h.ok
 obtain ⟨fn,hf,hb⟩:=Option.map_eq_some_iff.1 this
 simp only [Bool.and_eq_true,Bool.not_eq_true'] at hb
 obtain ⟨h1,h2⟩:=hb
 simp only [callFunc,Sem.run_bind,run_program,Result.andThen_ok,hf,h2,h1,Bool.false_eq_true,if_false]
 rfl
theorem B6y {o:Oper} {c:Call} {fv:Operand} {k:FuncId} {first cap:Array Value} {vs:List Value} {a:Act} (ha:Has a E) (ho:o.op=.call c) (hc:c.callee=.value fv) (hf:ev E fv=some (.func (.func k) first cap))
  (hargs:c.args.toList.mapM (ev E)=some vs) (hb:HasBody P k) (w:World):(execOp a.eval o).run P w=.ok (.enter k (first++vs.toArray++cap)) w:=by
 simp [execOp,ho,resolve,hc,C0 ha hf,Deferred.ofValue,A6l ha hargs,invoke,A0p hb]
theorem KeptBut.of_call {M:List Nat} {M0:List Nat} {w0 w w':World} (h:KeptBut M w0 w) (k:KeptBut M0 w w') (hM:∀ b ∈ M0,b ∈ M∨w0.heap.size≤b):KeptBut M w0 w' :=
 ⟨k.os.trans h.os,k.tape.trans h.tape,k.output.trans h.output,Nat.le_trans h.size k.size,fun i hi hm=>by
  rw [k.block i (Nat.lt_of_lt_of_le hi h.size) (fun hm0=>by rcases hM i hm0 with h1 | h1;exact hm h1;omega)]
  exact h.block i hi hm⟩
theorem StW.call {L0 L1 L2:Own} {Φ1:List Pers} {w w':World} {p:Hp} (hp:StH X L Φ p w) (hL:L.Perm (L0++L2)) (hc:StW (cx w p (L0.map Prod.fst)) L1 Φ1 w'):StW X (L1++L2) (Φ1++Φ) w':=by
 obtain ⟨p',hp'⟩:=hc
 have hle:p.le p':=hp'.le
 have hmay:∀ e ∈ L0++L2,e.1 ∈ X.M∨X.w0.heap.size≤e.1:=fun e he=>hp.may e (hL.symm.subset he)
 have hown:A0i (L0++L2) p w:=⟨fun e he=>hp.own.1 e (hL.symm.subset he),(hL.map Prod.fst).nodup_iff.1 hp.own.2⟩
 have hnd:=hown.2
 rw [List.map_append,List.nodup_append] at hnd
 have hdis:∀ e ∈ L2,e.1 ∉ L0.map Prod.fst:=fun e he hm=>hnd.2.2 e.1 hm e.1 (List.mem_map_of_mem he) rfl
 have hlt2:∀ e ∈ L2,e.1<w.heap.size:=fun e he=>hown.lt (List.mem_append_right _ he)
 refine ⟨p',⟨?_,hp'.sub,Hp.le_trans hp.le hle,?_,?_,?_,hp.kept.of_call hp'.kept fun b hb=>?_,fun d hd=>?_⟩⟩
 ·intro q hq
  rcases List.mem_append.1 hq with hq | hq
  ·exact hp'.facts q hq
  ·exact q.mono hle (hp.facts q hq)
 ·intro b hb
  rcases hp'.dom b hb with h1 | h1 | h1
  ·exact hp.dom b h1
  ·obtain ⟨e,he,rfl⟩:=List.mem_map.1 h1
   exact .inr (hmay e (List.mem_append_left _ he))
  ·exact .inr (.inr (Nat.le_trans hp.kept.size h1))
 ·constructor
  ·intro e he
   rcases List.mem_append.1 he with he | he
   ·exact hp'.own.1 e he
   ·have h1:=hown.1 e (List.mem_append_right _ he)
    refine ⟨by rw [hp'.kept.block _ (hlt2 e he) (hdis e he)];exact h1.1,?_⟩
    cases h2:p' e.1 with
    | none=>rfl
    | some o =>
     rcases hp'.dom e.1 (by rw [h2];simp) with h3 | h3 | h3
     ·exact absurd h1.2 h3
     ·exact absurd h3 (hdis e he)
     ·have:=hlt2 e he;simp only at h3;omega
  ·rw [List.map_append,List.nodup_append]
   refine ⟨hp'.own.2,hnd.2.1,?_⟩
   intro b hb c hc
   obtain ⟨e,he,rfl⟩:=List.mem_map.1 hb
   obtain ⟨e',he',rfl⟩:=List.mem_map.1 hc
   intro heq
   rcases hp'.may e he with h3 | h3
   ·exact hdis e' he' (heq▸h3)
   ·have:=hlt2 e' he';simp only at h3;omega
 ·intro e he
  rcases List.mem_append.1 he with he | he
  ·rcases hp'.may e he with h3 | h3
   ·obtain ⟨e',he',h4⟩:=List.mem_map.1 h3
    rw [← h4];exact hmay e' (List.mem_append_left _ he')
   ·exact .inr (Nat.le_trans hp.kept.size h3)
  ·exact hmay e (List.mem_append_right _ he)
 ·obtain ⟨e,he,rfl⟩:=List.mem_map.1 hb
  exact hmay e (List.mem_append_left _ he)
 ·obtain ⟨h1,h2,h3,h4⟩:=hp.res d hd
  have hlt:=(Array.getElem?_eq_some_iff.1 h1).1
  have hd0:d.1 ∉ L0.map Prod.fst:=fun hm=>by
   obtain ⟨e,he,hed⟩:=List.mem_map.1 hm
   exact h3 e (hL.symm.subset (List.mem_append_left _ he)) hed
  refine ⟨(hp'.kept.block d.1 hlt hd0).trans h1,?_,fun e he=>?_,h4⟩
  ·cases h5:p' d.1 with
   | none=>rfl
   | some o =>
    rcases hp'.dom d.1 (by rw [h5];simp) with h6 | h6 | h6
    ·exact absurd h2 h6
    ·exact absurd h6 hd0
    ·simp only at h6;omega
  ·rcases List.mem_append.1 he with he | he
   ·rcases hp'.may e he with h6 | h6
    ·exact fun hE=>hd0 (hE▸h6)
    ·simp only at h6;omega
   ·exact h3 e (hL.symm.subset (List.mem_append_right _ he))
theorem C3b {o:Oper} {c:Call} {fv:Operand} {k:FuncId} {first cap:Array Value} {vs args:List Value} {L0 L2:Own} {Φ0:List Pers} {α:Type} {val:α→Value} {L1:α→Own} {Φ1:α→List Pers}
  (hcon:Con P k args L0 Φ0 α val L1 Φ1) (ho:o.op=.call c) (hc:c.callee=.value fv) (hf:ev E fv=some (.func (.func k) first cap)) (hargs:c.args.toList.mapM (ev E)=some vs) (ha:(first++vs.toArray++cap).toList=args)
  (hΦ:A2 Φ Φ0) (hL:L.Perm (L0++L2)):Tri P n X o E L Φ α val (fun x=>L1 x++L2) (fun x=>Φ1 x++Φ):=by
 intro a w K Q hs hk
 obtain ⟨p,hp⟩:=hs.world
 have hr:=B6y hs.has ho hc hf hargs hcon.1 w
 refine A3b (by rw [ho];rfl) ?_
 unfold Oper.wp
 rw [hr,Oper.upon_enter]
 have hown:A0i (L0++L2) p w:=⟨fun e he=>hp.own.1 e (hL.symm.subset he),(hL.map Prod.fst).nodup_iff.1 hp.own.2⟩
 have:=hcon.2 w p (hΦ p hp.facts) hp.sub (hown.sub (List.sublist_append_left _ _))
 rw [← ha,Array.toArray_toList] at this
 refine this.mono fun e w' ⟨x,he,hw⟩=>?_
 subst he
 exact hk x w' (StW.call hp hL hw)
theorem B3h {o:Oper} {c:Call} {fv:Operand} {k:FuncId} {first cap:Array Value} {vs args:List Value} {Φ0:List Pers} {v:Value}
  (hcon:I6 P k args Φ0 v) (ho:o.op=.call c) (hc:c.callee=.value fv) (hf:ev E fv=some (.func (.func k) first cap)) (hargs:c.args.toList.mapM (ev E)=some vs) (ha:(first++vs.toArray++cap).toList=args)
  (hΦ:A2 Φ Φ0):Det P X o E L Φ v:=by
 intro a hh w ⟨p,hp⟩
 have hr:=B6y hh ho hc hf hargs hcon.1 w
 unfold Oper.quietAt
 rw [hr]
 refine ⟨rfl,?_⟩
 have:=hcon.2 w p (hΦ p hp.facts) hp.sub (show A0i [] p w from ⟨fun e he=>(by cases he),List.nodup_nil⟩)
 rw [← ha,Array.toArray_toList] at this
 refine this.mono fun e w' ⟨x,he,hw⟩=>⟨he,?_⟩
 have h:=StW.call (L0:=[]) (L2:=L) hp (by simp) hw
 exact h.foll fun p hp q hq=>hp q (List.mem_append_right _ hq)
theorem B2b {c:Code} {β:Type} (I:β→Prop) (Ei:β→Env) (Li:β→Own) (Φi:β→List Pers) (μ:β→Nat) (x0:β) (hI:I x0) (hE:J0 E (Ei x0)) (hL:List.Sublist (Li x0) L) (hΦ:A2 Φ (Φi x0))
  (h:∀ x,I x→J P n X c (Exit.then (fun a w=>∃ y,I y∧μ y<μ x∧St n X (Ei y) (Li y) (Φi y) a w) Q) (Ei x) (Li x) (Φi x)):J P n X (.loop c) Q E L Φ:=by
 intro a w hs
 refine wpIn_loop_ghost (fun k a w=>∃ x,I x∧μ x=k∧St n X (Ei x) (Li x) (Φi x) a w) (μ x0) ⟨x0,hI,rfl,hs.size,hs.defers,hs.has.weaken (I2 hE),(hs.world.sub hL).foll hΦ⟩ ?_
 rintro k a w ⟨x,hx,rfl,hst⟩
 refine Code.wpIn_mono (fun e a w q=>?_) (h x hx a w hst)
 cases e with
 | normal=>obtain ⟨y,hIy,hy,hs'⟩:=q;exact ⟨μ y,hy,y,hIy,rfl,hs'⟩
 | _=>exact q
end
end Go.Fen
set_option linter.unusedVariables false
set_option linter.unusedSimpArgs false
namespace Go.Fen
open Go Go.RowKit
section
variable {P:Program} {n:Nat} {X:Cx} {K:Act→World→Prop} {Q:Exit→Act→World→Prop} {E E':Env} {L L':Own} {Φ Φ':List Pers}
theorem A4b {k:IntKind} {m:Int} (h1:k.min≤m) (h2:m≤k.max):k.wrap m=m:=by
 cases k<;>simp only [IntKind.wrap,IntKind.min,IntKind.max,IntKind.bits,IntKind.signed] at *<;>simp at h1 h2 ⊢<;>omega
theorem F9 {o:Oper} {v u:Value} (h:I9 P X o E L Φ v) (hv:v=u):I9 P X o E L Φ u:=hv▸h
theorem D1j {o:Oper} {T U:TypeId} {x y:Operand} {k:IntKind} {a b c:Int} (ho:o.op=.binOp .add T x y U) (hx:ev E x=some (.int k a)) (hy:ev E y=some (.int k b)) (hc:a+b=c) (h1:k.min≤c) (h2:c≤k.max):I9 P X o E L Φ (.int k c) :=
 .pure (by simp [B0g,ho,hx,hy,B2q,hc,A4b h1 h2])
theorem D0y {o:Oper} {T U:TypeId} {x y:Operand} {k:IntKind} {a b c:Int} (ho:o.op=.binOp .sub T x y U) (hx:ev E x=some (.int k a)) (hy:ev E y=some (.int k b)) (hc:a - b=c) (h1:k.min≤c) (h2:c≤k.max):I9 P X o E L Φ (.int k c) :=
 .pure (by simp [B0g,ho,hx,hy,B2q,hc,A4b h1 h2])
theorem B4 {o:Oper} {T U:TypeId} {x y:Operand} {a b c:Int} (ho:o.op=.binOp .add T x y U) (hx:ev E x=some (.int .i64 a)) (hy:ev E y=some (.int .i64 b)) (hc:a+b=c) (h:-9223372036854775808≤c∧c≤9223372036854775807):I9 P X o E L Φ (.int .i64 c):=D1j ho hx hy hc h.1 h.2
theorem Q0 {o:Oper} {T U:TypeId} {x y:Operand} {a b c:Int} (ho:o.op=.binOp .sub T x y U) (hx:ev E x=some (.int .i64 a)) (hy:ev E y=some (.int .i64 b)) (hc:a - b=c) (h:-9223372036854775808≤c∧c≤9223372036854775807):I9 P X o E L Φ (.int .i64 c):=D0y ho hx hy hc h.1 h.2
theorem D0i {o:Oper} {T U:TypeId} {x y:Operand} {k:IntKind} {a b c:Int} (ho:o.op=.binOp .rem T x y U) (hx:ev E x=some (.int k a)) (hy:ev E y=some (.int k b)) (hb:b≠0) (hc:a.tmod b=c):I9 P X o E L Φ (.int k c) :=
 .of_run fun ac w ha _=>by simp [execOp,ho,C0 ha hx,C0 ha hy,eqGuard,binOp,Op.intDiv,hb,hc]
theorem A2t {o:Oper} {T U:TypeId} {x y:Operand} {k j:IntKind} {a b c:Int} (ho:o.op=.binOp .shr T x y U) (hx:ev E x=some (.int k a)) (hy:ev E y=some (.int j b)) (hb:0≤b) (hc:a.fdiv (2 ^ (min b.toNat k.bits))=c):I9 P X o E L Φ (.int k c) :=
 .of_run fun ac w ha _=>by
  have:¬ b<0:=by omega
  simp [execOp,ho,C0 ha hx,C0 ha hy,eqGuard,binOp,Op.shift,this,hc]
theorem D0k {o:Oper} {T U:TypeId} {x y:Operand} {k j:IntKind} {a b c:Int} (ho:o.op=.binOp .shl T x y U) (hx:ev E x=some (.int k a)) (hy:ev E y=some (.int j b)) (hb:0≤b) (hc:k.wrap (a * 2 ^ (min b.toNat k.bits))=c):I9 P X o E L Φ (.int k c) :=
 .of_run fun ac w ha _=>by
  have:¬ b<0:=by omega
  simp [execOp,ho,C0 ha hx,C0 ha hy,eqGuard,binOp,Op.shift,this,hc]
theorem A3l {o:Oper} {S T:TypeId} {x:Operand} {k j:IntKind} {a c:Int} (hT:P.underlying T=some (.int j)) (hS:(P.underlying S).isSome=true) (ho:o.op=.convert S T x) (hx:ev E x=some (.int k a)) (hc:j.wrap a=c):I9 P X o E L Φ (.int j c) :=
 .of_run fun ac w ha _=>by
  obtain ⟨d,hd⟩:=Option.isSome_iff_exists.1 hS
  simp [execOp,ho,C0 ha hx,convert,run_underlying hT,run_underlying hd,Conv.intToInt,hc]
theorem C5p {o:Oper} {T U:TypeId} {x y:Operand} {a b:Bool} (hT:P.underlying T=some .bool) (ho:o.op=.binOp .eql T x y U) (hx:ev E x=some (.bool a)) (hy:ev E y=some (.bool b)):I9 P X o E L Φ (.bool (a == b)) :=
 .of_run fun ac w ha _=>by simp [execOp,ho,C0 ha hx,C0 ha hy,eqGuard,binOp,Op.equal,Op.maxDepth,run_equalIn_bool' w 9999 T a b hT]
theorem C0o {o:Oper} {T U:TypeId} {x y:Operand} {a b:Bool} (hT:P.underlying T=some .bool) (ho:o.op=.binOp .neq T x y U) (hx:ev E x=some (.bool a)) (hy:ev E y=some (.bool b)):I9 P X o E L Φ (.bool (!(a == b))) :=
 .of_run fun ac w ha _=>by simp [execOp,ho,C0 ha hx,C0 ha hy,eqGuard,binOp,Op.equal,Op.maxDepth,run_equalIn_bool' w 9999 T a b hT]
def C4e (P:Program) (T:Nat) (parts:List (Nat×Value)):Option (Array Value) :=
 match (P.info? T).bind (·.zero),P.underlying T with
 | some z,some (.struct fields) =>
  match fields.mapM fun f=>(P.info? f.type).map fun i=>(f.offset,i.size) with
  | some places=>Instr.fill (places[·]?) z.cells parts
  | none=>none
 | some z,some (.array _ e)=>match P.info? e with
  | some i=>Instr.fill (fun k=>some (k * i.size,i.size)) z.cells parts
  | none=>none
 | _,_=>none
theorem B0z {α β:Type} {g:α→Sem β} {f:α→Option β} {w:World} (hg:∀ x y,f x=some y→(g x).run P w=.ok y w):∀ {xs:List α} {ys:List β},xs.mapM f=some ys→(xs.mapM g).run P w=.ok ys w
 | [],ys,h=>by simp at h;subst h;rfl
 | x::xs,ys,h=>by
  simp only [List.mapM_cons,Option.bind_eq_bind,Option.bind_eq_some_iff] at h
  obtain ⟨y,hy,zs,hzs,h⟩:=h
  simp only [Option.pure_def,Option.some.injEq] at h
  subst h
  simp [List.mapM_cons,hg x y hy,B0z hg hzs]
theorem C1k {α β:Type} {g:α→Sem β} {f:α→Option β} {w:World} (hg:∀ x y,f x=some y→(g x).run P w=.ok y w) {xs:Array α} {ys:Array β} (h:xs.mapM f=some ys):(xs.mapM g).run P w=.ok ys w:=by
 rw [Array.mapM_eq_mapM_toList] at h ⊢
 simp only [Option.map_eq_map,Option.map_eq_some_iff] at h
 obtain ⟨zs,hz,rfl⟩:=h
 simp [B0z hg hz]
def A7z (E:Env):List (Nat×Operand)→Option (List (Nat×Value))
 | []=>some []
 | (i,x)::rest=>match ev E x,A7z E rest with
  | some v,some r=>some ((i,v)::r)
  | _,_=>none
theorem A8e {a:Act} (ha:Has a E):∀ {ps:List (Nat×Operand)} {vs:List (Nat×Value)},A7z E ps=some vs→ps.map (fun (i,x)=>(i,a.eval x))=vs
 | [],vs,h=>by simp [A7z] at h;simp [h]
 | (i,x)::rest,vs,h=>by
  unfold A7z at h
  split at h
  ·rename_i v r hv hr
   simp only [Option.some.injEq] at h;subst h
   simp [C0 ha hv,A8e ha hr]
  ·cases h
theorem A7n {o:Oper} {T:Nat} {ps:Array (Nat×Operand)} {vs:List (Nat×Value)} {cs:List Value} (ho:o.op=.build T ps) (hp:A7z E ps.toList=some vs) (hc:C4e P T vs=some cs.toArray):I9 P X o E L Φ (.agg cs.toArray) :=
 .of_run fun a w ha _=>by
  have hm:(ps.map fun (x:Nat×Operand)=>(x.1,a.eval x.2)).toList=vs:=by simpa using A8e ha hp
  unfold C4e at hc
  split at hc
  ·rename_i z fields hz hu
   obtain ⟨i,hi,hz⟩:=Option.bind_eq_some_iff.1 hz
   split at hc
   ·rename_i places hpl
    have hzr:(zeroValue T).run P w=.ok z w:=by simp [zeroValue,B0a hi,hz]
    have hfm:(fields.mapM fun f=>(do pure (f.offset,← sizeOf f.type):Sem (Nat×Nat))).run P w=.ok places w:=by
     refine C1k (fun f y hy=>?_) hpl
     obtain ⟨i,hi,rfl⟩:=Option.map_eq_some_iff.1 hy
     simp [A0y hi]
    simp only [execOp,ho,Instr.build,Sem.run_bind,hzr,Result.andThen_ok,run_underlying hu,hfm,hm,hc]
    rfl
   ·cases hc
  ·rename_i z k e hz hu
   obtain ⟨i,hi,hz⟩:=Option.bind_eq_some_iff.1 hz
   split at hc
   ·rename_i i2 hi2
    have hzr:(zeroValue T).run P w=.ok z w:=by simp [zeroValue,B0a hi,hz]
    simp only [execOp,ho,Instr.build,Sem.run_bind,hzr,Result.andThen_ok,run_underlying hu,A0y hi2,hm,hc]
    rfl
   ·cases hc
  ·cases hc
def sl {α:Type} (c:α→List Value) (q:Option Addr) (xs:List α):Pers:=⟨fun h=>match q with | none=>xs=[] | some a=>A2v h a (xs.flatMap c),fun {h h'} hl hp=>by
 cases q with
 | none=>exact hp
 | some a=>exact (at_ a (xs.flatMap c)).mono hl hp⟩
theorem A6u {α:Type} {c:α→List Value} {sz:Nat} (hc:∀ x,(c x).length=sz):∀ {xs:List α} {k:Nat} {v:α},xs[k]?=some v→∀ j u,(c v)[j]?=some u→(xs.flatMap c)[k * sz+j]?=some u
 | [],k,v,h,j,u,hu=>by cases h
 | x::xs,0,v,h,j,u,hu=>by
  simp only [List.getElem?_cons_zero,Option.some.injEq] at h;subst h
  rw [List.flatMap_cons,Nat.zero_mul,Nat.zero_add,List.getElem?_append_left (List.getElem?_eq_some_iff.1 hu).1];exact hu
 | x::xs,k+1,v,h,j,u,hu=>by
  simp only [List.getElem?_cons_succ] at h
  have:=A6u hc h j u hu
  rw [List.flatMap_cons,List.getElem?_append_right (by rw [hc,Nat.succ_mul];omega),hc,show (k+1) * sz+j - sz=k * sz+j by rw [Nat.succ_mul];omega];exact this
theorem A2v.sub {α:Type} {c:α→List Value} {sz:Nat} (hc:∀ x,(c x).length=sz) {xs:List α} {h:Hp} {a:Addr} (hh:A2v h a (xs.flatMap c)) {k:Nat} {v:α} (hv:xs[k]?=some v):A2v h (a.add (k * sz)) (c v):=by
 obtain ⟨b,o,sp⟩:=a
 obtain hn | ⟨h0,cc,T,fr,h1,h2⟩:=hh
 ·exact .inl (List.flatMap_eq_nil_iff.1 hn v (List.mem_of_getElem? hv))
 simp only at h0 h1 h2
 subst h0
 rw [U3]
 exact .inr ⟨rfl,cc,T,fr,h1,fun j u hu=>by rw [Nat.add_assoc];exact h2 _ _ (A6u hc hv j u hu)⟩
structure SlTy (P:Program) (T e sz:Nat):Prop where
 ty:P.underlying T=some (.slice e)
 size:(P.info? e).map (·.size)=some sz
theorem SlTy.run {T e sz:Nat} (h:SlTy P T e sz) (w:World):(sizeOf e).run P w=.ok sz w:=by
 obtain ⟨i,hi,hs⟩:=Option.map_eq_some_iff.1 h.size
 rw [A0y hi,hs]
theorem D3w {T e sz:Nat} (hT:SlTy P T e sz) {a:Addr} {len cap k:Nat} (hk:k<len) (w:World):(Instr.indexAt T (.slice (some a) len cap) (.int .i64 k)).run P w=.ok (.pointer (some (a.add (k * sz)))) w:=by
 have h1:(0:Int)≤k∧(k:Int)<len:=by omega
 simp [Instr.indexAt,asIntOf,run_underlying hT.ty,hT.run,h1,Nat.not_le.2 hk]
theorem C6l {α:Type} {c:α→List Value} {q:Option Addr} {xs:List α} {p:Hp} (h:(sl c q xs).p p) {k:Nat} (hk:k<xs.length):∃ a,q=some a:=by
 cases q with
 | none=>simp [sl] at h;subst h;simp at hk
 | some a=>exact ⟨a,rfl⟩
theorem C9i {o:Oper} {T e sz:Nat} {x y:Operand} {a:Addr} {len cap:Nat} {m:Int} (hT:SlTy P T e sz) (ho:o.op=.indexAddr T x y)
  (hx:ev E x=some (.slice (some a) len cap)) (hy:ev E y=some (.int .i64 m)) (k:Nat) (hk:m=k) (hl:k<len):I9 P X o E L Φ (.pointer (some (a.add (k * sz)))) :=
 .of_run fun ac w ha _=>by
  subst hk
  simp [execOp,ho,C0 ha hx,C0 ha hy,D3w hT hl]
theorem J3 {ops:Array Oper} {i m:Nat} {α:Type} {f:α→List Value} {q:Option Addr} {xs:List α} (j:Nat) (hΦ:Φ[j]?=some (sl f q xs)) (hl:0<xs.length) (h:∀ a,q=some a→JI P n X ops i m K Q E L Φ):JI P n X ops i m K Q E L Φ:=fun a w hs=>by
 obtain ⟨p,hp⟩:=hs.world
 obtain ⟨b,hb⟩:=C6l (hp.facts _ (List.mem_of_getElem? hΦ)) hl
 exact h b hb a w hs
theorem F0 {o:Oper} {T e sz len:Nat} {x y:Operand} {cs us:List Value} {m:Int} {v:Value} (hT:P.underlying T=some (.array len e)) {agg:Bool} (he:Ty P e sz agg) (ho:o.op=.index T x y)
  (hx:ev E x=some (.agg cs.toArray)) (hy:ev E y=some (.int .i64 m)) (k:Nat) (hk:m=k) (hl:k<len) (hu:(cs.drop (k * sz)).take sz=us) (hv:(if agg then some (.agg us.toArray) else us[0]?)=some v) (hz:Nat.blt 0 sz=true):I9 P X o E L Φ v :=
 .of_run fun ac w ha _=>by
  subst hk
  have h1:(0:Int)≤k∧(k:Int)<len:=by omega
  have hz':0<sz:=by simpa [Nat.blt_eq] using hz
  simp only [execOp,ho,C0 ha hx,C0 ha hy,Instr.index,asIntOf,Sem.run_bind,Sem.run_pure,Result.andThen_ok,run_underlying hT,h1,and_self,if_true,Int.toNat_natCast,he.size,part,he.agg]
  cases agg with
  | true =>
   simp only [if_true,Option.some.injEq] at hv
   subst hv
   simp [he.size]
   exact hu
  | false =>
   simp only [Bool.false_eq_true,if_false] at hv
   have:cs.toArray[k * sz]?=some v:=by
    rw [← hv,← hu,List.getElem?_take,if_pos hz',List.getElem?_drop]
    simp
   simp only [Bool.false_eq_true,if_false,this,Sem.run_pure,Result.andThen_ok]
structure EqT (P:Program) (T:Nat) {α:Type} [DecidableEq α] (c:α→List Value):Prop where
 run:∀ (x y:α) (w:World),(Op.equal T (.agg (c x).toArray) (.agg (c y).toArray)).run P w=.ok (decide (x=y)) w
 guard:P.eqGuardType P.depth T=false
theorem A6t {o:Oper} {T U:TypeId} {x y:Operand} {α:Type} [DecidableEq α] {c:α→List Value} {a b:α} (hT:EqT P T c) (ho:o.op=.binOp .eql T x y U) (hx:ev E x=some (.agg (c a).toArray)) (hy:ev E y=some (.agg (c b).toArray)):I9 P X o E L Φ (.bool (decide (a=b))) :=
 .of_run fun ac w ha _=>by simp [execOp,ho,C0 ha hx,C0 ha hy,eqGuard,hT.guard,binOp,hT.run]
theorem A5i {o:Oper} {T U:TypeId} {x y:Operand} {α:Type} [DecidableEq α] {c:α→List Value} {a b:α} (hT:EqT P T c) (ho:o.op=.binOp .neq T x y U) (hx:ev E x=some (.agg (c a).toArray)) (hy:ev E y=some (.agg (c b).toArray)):I9 P X o E L Φ (.bool (!decide (a=b))) :=
 .of_run fun ac w ha _=>by simp [execOp,ho,C0 ha hx,C0 ha hy,eqGuard,hT.guard,binOp,hT.run]
end
end Go.Fen
set_option linter.unusedVariables false
set_option linter.unusedSimpArgs false
namespace Go.Fen
open Go Go.RowKit
def A8t (P:Program) (T:TypeId):Bool:=match P.underlying T with
 | some (.struct _) | some (.array _ _)=>true
 | _=>false
def vOf (P:Program) (T:TypeId) (us:List Value):Value:=if A8t P T then .agg us.toArray else us.headD undef
def C7s (P:Program) (r:TypeId→List Value→List Value→Bool):List Field→Nat→List Value→List Value→Bool
 | [],_,us,vs=>us.isEmpty&&vs.isEmpty
 | f :: fs, off, us, vs => f.name != "_" && f.offset == off && r f.type (us.take (P.cellsOf f.type)) (vs.take (P.cellsOf f.type)) && C7s P r fs (off + P.cellsOf f.type) (us.drop (P.cellsOf f.type)) (vs.drop (P.cellsOf f.type))
def C7i (P:Program) (r:TypeId→List Value→List Value→Bool) (e:TypeId):Nat→List Value→List Value→Bool
 | 0,us,vs=>us.isEmpty&&vs.isEmpty
 | n+1,us,vs=>r e (us.take (P.cellsOf e)) (vs.take (P.cellsOf e))&&C7i P r e n (us.drop (P.cellsOf e)) (vs.drop (P.cellsOf e))
def wk (P:Program):Nat→TypeId→List Value→List Value→Bool
 | 0,_,_,_=>false
 | d+1,T,us,vs=>(P.info? T).isSome&&us.length == P.cellsOf T&&vs.length == P.cellsOf T&&match P.underlying T with
  | some .bool=>match us,vs with
   | [.bool _],[.bool _]=>true
   | _,_=>false
  | some (.int k)=>match us,vs with
   | [.int a _],[.int b _]=>decide (a=k)&&decide (b=k)
   | _,_=>false
  | some .string=>match us,vs with
   | [.string _],[.string _]=>true
   | _,_=>false
  | some (.struct fs)=>!P.stoodInHeld T&&C7s P (wk P d) fs.toList 0 us vs
  | some (.array n e)=>n != 0&&C7i P (wk P d) e n us vs
  | _=>false
section
variable {P:Program}
theorem C1u {T:TypeId} {i:TypeInfo} (h:P.info? T=some i):P.cellsOf T=i.size:=by simp [Program.cellsOf,h]
theorem A8c {T:TypeId} (hi:(P.info? T).isSome=true) {d:TypeDesc} (hd:P.underlying T=some d) {xs:Array Value} {off:Nat} {us:List Value} (hu:(xs.toList.drop off).take (P.cellsOf T)=us) (hn:A8t P T=false→us≠[]) (w:World) :
  (part T xs off).run P w=.ok (vOf P T us) w:=by
 obtain ⟨i,hi⟩:=Option.isSome_iff_exists.1 hi
 have hag:(isAgg T).run P w=.ok (A8t P T) w:=by
  unfold isAgg A8t
  rw [Sem.run_bind,run_underlying hd,hd]
  cases d<;>rfl
 cases hr:A8t P T with
 | true =>
  have:xs.extract off (off+i.size)=us.toArray:=by
   rw [← hu,C1u hi]
   apply Array.ext'
   simp [List.extract_eq_take_drop]
  simp [part,hag,hr,A0y hi,vOf,this]
 | false =>
  have h0:xs[off]?=some (us.headD undef):=by
   cases us with
   | nil=>exact absurd rfl (hn hr)
   | cons u us =>
    have:=congrArg (·[0]?) hu
    simp only [List.getElem?_cons_zero,List.getElem?_take,List.getElem?_drop,Nat.add_zero] at this
    split at this
    ·simpa using this
    ·cases this
  simp [part,hag,hr,vOf,h0]
theorem C6a:∀ (d:Nat) (k:Nat) (T:TypeId) (us vs:List Value) (w:World),wk P d T us vs=true→∃ b:Bool,(Op.equalIn (k+d) T (vOf P T us) (vOf P T vs)).run P w=.ok b w∧(b=true ↔ us=vs)
 | 0,_,_,_,_,_,h=>by simp [wk] at h
 | d+1,k,T,us,vs,w,h=>by
  have ih:=fun T us vs h=>C6a d k T us vs w h
  unfold wk at h
  simp only [Bool.and_eq_true,beq_iff_eq] at h
  obtain ⟨⟨⟨hi,hl1⟩,hl2⟩,h⟩:=h
  have key:∀ (T:TypeId) (us vs:List Value),wk P d T us vs=true→(P.info? T).isSome=true∧us.length=P.cellsOf T∧vs.length=P.cellsOf T∧(∃ dd,P.underlying T=some dd)∧(A8t P T=false→us≠[]∧vs≠[]):=by
   intro T us vs h
   cases d with
   | zero=>simp [wk] at h
   | succ d =>
    unfold wk at h
    simp only [Bool.and_eq_true,beq_iff_eq] at h
    obtain ⟨⟨⟨hi,hl1⟩,hl2⟩,h⟩:=h
    refine ⟨hi,hl1,hl2,?_,?_⟩
    ·split at h<;>first|exact ⟨_,‹_›⟩|cases h
    ·intro hr
     split at h
     ·split at h
      ·simp
      ·cases h
     ·split at h
      ·simp
      ·cases h
     ·split at h
      ·simp
      ·cases h
     ·rename_i hu;simp [A8t,hu] at hr
     ·rename_i hu;simp [A8t,hu] at hr
     ·cases h
  split at h
  ·rename_i hu
   have hr:A8t P T=false:=by simp [A8t,hu]
   split at h
   ·rename_i a b
    exact ⟨a == b,by simp [vOf,hr,← Nat.add_assoc,run_equalIn_bool' w _ T a b hu],by simp⟩
   ·cases h
  ·rename_i q hu
   have hr:A8t P T=false:=by simp [A8t,hu]
   split at h
   ·rename_i j a j' b
    simp only [Bool.and_eq_true,decide_eq_true_eq] at h
    obtain ⟨rfl,rfl⟩:=h
    exact ⟨a == b,by simp [vOf,hr,← Nat.add_assoc,run_equalIn_int w _ T _ _ a b hu],by simp⟩
   ·cases h
  ·rename_i hu
   have hr:A8t P T=false:=by simp [A8t,hu]
   split at h
   ·rename_i a b
    refine ⟨a.toList == b.toList,by simp [vOf,hr,← Nat.add_assoc,run_equalIn_string w _ T a b hu],?_⟩
    rw [beq_iff_eq,ByteArray.toList_eq,ByteArray.toList_eq]
    constructor
    ·intro e
     obtain ⟨⟨x⟩⟩:=a
     obtain ⟨⟨y⟩⟩:=b
     simp only at e
     rw [e]
    ·intro e
     simp only [List.cons.injEq,Value.string.injEq,and_true] at e
     rw [e]
   ·cases h
  ·rename_i fs hu
   have hr:A8t P T=true:=by simp [A8t,hu]
   simp only [Bool.and_eq_true,Bool.not_eq_true'] at h
   have hf:P.fieldsOf T=fs:=by simp [Program.fieldsOf,hu]
   simp only [vOf,hr,if_true,Nat.add_succ]
   rw [run_equalIn_struct w (k+d) T us.toArray vs.toArray (by rw [hf];exact hu) h.1,hf]
   have loop:∀ (fs:List Field) (off:Nat) (us' vs':List Value),us.drop off=us'→vs.drop off=vs'→C7s P (wk P d) fs off us' vs'=true →
     ∃ b:Bool,(Op.eqFields (k+d) us.toArray vs.toArray fs).run P w=.ok b w∧(b=true ↔ us'=vs'):=by
    intro fs
    induction fs with
    | nil =>
     intro off us' vs' _ _ h
     simp only [C7s,Bool.and_eq_true,List.isEmpty_iff] at h
     exact ⟨true,by simp [Op.eqFields],by simp [h.1,h.2]⟩
    | cons f fs ihf =>
     intro off us' vs' h1 h2 h
     simp only [C7s,Bool.and_eq_true,bne_iff_ne,beq_iff_eq] at h
     obtain ⟨⟨⟨hnm,hoff⟩,hk⟩,hrest⟩:=h
     obtain ⟨hi',hl1',hl2',⟨dd,hdd⟩,hne⟩:=key _ _ _ hk
     obtain ⟨b,hb,hbi⟩:=ih _ _ _ hk
     obtain ⟨b',hb',hbi'⟩:=ihf (off+P.cellsOf f.type) _ _ (by rw [← h1,List.drop_drop]) (by rw [← h2,List.drop_drop]) hrest
     have p1:=A8c (P:=P) hi' hdd (xs:=us.toArray) (off:=f.offset) (us:=us'.take (P.cellsOf f.type)) (by rw [hoff,← h1]) (fun e=>(hne e).1) w
     have p2:=A8c (P:=P) hi' hdd (xs:=vs.toArray) (off:=f.offset) (us:=vs'.take (P.cellsOf f.type)) (by rw [hoff,← h2]) (fun e=>(hne e).2) w
     have split:us'=vs' ↔ us'.take (P.cellsOf f.type)=vs'.take (P.cellsOf f.type)∧us'.drop (P.cellsOf f.type)=vs'.drop (P.cellsOf f.type):=by
      constructor
      ·intro e;rw [e];exact ⟨rfl,rfl⟩
      ·intro ⟨e1,e2⟩;rw [← List.take_append_drop (P.cellsOf f.type) us',e1,e2,List.take_append_drop]
     simp only [Op.eqFields,ne_eq,hnm,not_false_eq_true,if_true,Sem.run_bind,p1,p2,Result.andThen_ok,hb]
     cases b with
     | false=>exact ⟨false,by simp,by rw [split,← hbi];simp⟩
     | true=>exact ⟨b',by simpa using hb',by rw [split,← hbi,hbi'];simp⟩
   exact loop fs.toList 0 us vs rfl rfl h.2
  ·rename_i m e hu
   have hr:A8t P T=true:=by simp [A8t,hu]
   obtain ⟨i0,hi0⟩:=Option.isSome_iff_exists.1 hi
   simp only [vOf,hr,if_true,Nat.add_succ]
   cases m with
   | zero=>simp at h
   | succ m =>
    simp only [Bool.and_eq_true] at h
    replace h:=h.2
    have hie:∃ i,P.info? e=some i:=by
     have:wk P d e (us.take (P.cellsOf e)) (vs.take (P.cellsOf e))=true:=by simp only [C7i,Bool.and_eq_true] at h;exact h.1
     exact Option.isSome_iff_exists.1 (key _ _ _ this).1
    obtain ⟨ie,hie⟩:=hie
    rw [run_equalIn_array w (k+d) us.toArray vs.toArray hu hie,List.range_eq_range']
    have loop:∀ (m:Nat) (j:Nat) (us' vs':List Value),us.drop (j * P.cellsOf e)=us'→vs.drop (j * P.cellsOf e)=vs'→C7i P (wk P d) e m us' vs'=true →
      ∃ b:Bool,(Op.eqItems (k+d) e (P.cellsOf e) us.toArray vs.toArray (List.range' j m)).run P w=.ok b w∧(b=true ↔ us'=vs'):=by
     intro m
     induction m with
     | zero =>
      intro j us' vs' _ _ h
      simp only [C7i,Bool.and_eq_true,List.isEmpty_iff] at h
      exact ⟨true,by simp [Op.eqItems],by simp [h.1,h.2]⟩
     | succ m ihm =>
      intro j us' vs' h1 h2 h
      simp only [C7i,Bool.and_eq_true] at h
      obtain ⟨hk,hrest⟩:=h
      obtain ⟨hi',hl1',hl2',⟨dd,hdd⟩,hne⟩:=key _ _ _ hk
      obtain ⟨b,hb,hbi⟩:=ih _ _ _ hk
      obtain ⟨b',hb',hbi'⟩:=ihm (j+1) _ _ (by rw [← h1,List.drop_drop,Nat.succ_mul]) (by rw [← h2,List.drop_drop,Nat.succ_mul]) hrest
      have p1:=A8c (P:=P) hi' hdd (xs:=us.toArray) (off:=j * P.cellsOf e) (us:=us'.take (P.cellsOf e)) (by rw [← h1]) (fun e=>(hne e).1) w
      have p2:=A8c (P:=P) hi' hdd (xs:=vs.toArray) (off:=j * P.cellsOf e) (us:=vs'.take (P.cellsOf e)) (by rw [← h2]) (fun e=>(hne e).2) w
      have split:us'=vs' ↔ us'.take (P.cellsOf e)=vs'.take (P.cellsOf e)∧us'.drop (P.cellsOf e)=vs'.drop (P.cellsOf e):=by
       constructor
       ·intro e;rw [e];exact ⟨rfl,rfl⟩
       ·intro ⟨e1,e2⟩;rw [← List.take_append_drop (P.cellsOf e) us',e1,e2,List.take_append_drop]
      rw [List.range'_succ]
      simp only [Op.eqItems,Sem.run_bind,p1,p2,Result.andThen_ok,hb]
      cases b with
      | false=>exact ⟨false,by simp,by rw [split,← hbi];simp⟩
      | true=>exact ⟨b',by simpa using hb',by rw [split,← hbi,hbi'];simp⟩
    exact loop (m+1) 0 us vs (by simp) (by simp) h
  ·cases h
theorem EqT.of {T:TypeId} {α:Type} [DecidableEq α] {c:α→List Value} (d:Nat) (hd:Nat.ble d 10000=true) (hr:A8t P T=true) (hg:P.eqGuardType P.depth T=false) (hk:∀ x y,wk P d T (c x) (c y)=true) (hc:∀ x y,c x=c y→x=y):EqT P T c:=by
 refine ⟨fun x y w=>?_,hg⟩
 obtain ⟨b,hb,hbi⟩:=C6a d (10000 - d) T (c x) (c y) w (hk x y)
 have hd':=Nat.le_of_ble_eq_true hd
 rw [Nat.sub_add_cancel hd'] at hb
 simp only [vOf,hr,if_true] at hb
 unfold Op.equal Op.maxDepth
 rw [hb]
 congr 1
 by_cases e:x=y
 ·subst e;simp [hbi.2 rfl]
 ·cases b with
  | false=>simp [e]
  | true=>exact absurd (hc _ _ (hbi.1 rfl)) e
end
end Go.Fen
set_option linter.unusedVariables false
set_option linter.unusedSimpArgs false
namespace Go.Fen
open Go Go.RowKit
abbrev ag (cs:List Value):Value:=.agg cs.toArray
abbrev bs (l:List UInt8):ByteArray:=⟨l.toArray⟩
structure Slc where
 q:Option Addr
 n:Nat
 k:Nat
deriving DecidableEq
section
variable {P:Program} {n:Nat} {X:Cx} {K:Act→World→Prop} {Q:Exit→Act→World→Prop} {E E':Env} {L L':Own} {Φ Φ':List Pers}
theorem B6t {o:Oper} {T e len sz:Nat} {agg:Bool} {x:Operand} {a:Addr} (hT:P.underlying T=some (.array len e)) (he:Ty P e sz agg) (ho:o.op=.slice T x none none none) (hx:ev E x=some (.pointer (some a))):I9 P X o E L Φ (.slice (some a) len len) :=
 .of_run fun ac w ha _=>by
  by_cases h0:len=0
  ·subst h0
   simp [execOp,ho,C0 ha hx,Instr.sliceAt,run_underlying hT,Instr.sureAddr,Instr.sliceBounds,he.size]
  ·simp [execOp,ho,C0 ha hx,Instr.sliceAt,run_underlying hT,Instr.sureAddr,Instr.sliceBounds,he.size,Addr.add]
theorem E9 {o:Oper} {T e sz len:Nat} {ps:Array (Nat×Operand)} {vs:List (Nat×Value)} {α:Type} {c:α→List Value} {xs:List α} (hT:SlTy P T e sz) (hne:Nat.blt 0 (len * sz)=true) (ho:o.op=.buildSlice T len ps) (hp:A7z E ps.toList=some vs)
  (hc:(if len * sz > 2 ^ 24 then none else match (P.info? e).bind (·.zero) with
   | some z=>Instr.fill (fun i=>some (i * sz,sz)) ((Array.range (len * sz)).map (z.cells[· % z.cells.size]!)) vs
   | none=>none)=some (xs.flatMap c).toArray) :
  Tri P n X o E L Φ Nat (fun b=>.slice (some ⟨b,0,none⟩) len len) (fun _=>L) (fun b=>sl c (some ⟨b,0,none⟩) xs::Φ):=by
 intro a w K Q hs hk
 have hm:(ps.map fun (x:Nat×Operand)=>(x.1,a.eval x.2)).toList=vs:=by simpa using A8e hs.has hp
 split at hc
 ·cases hc
 ·rename_i hle
  split at hc
  ·rename_i z hz
   obtain ⟨i,hi,hz'⟩:=Option.bind_eq_some_iff.1 hz
   have hzr:(zeroValue e).run P w=.ok z w:=by simp [zeroValue,B0a hi,hz']
   have hr:(execOp a.eval o).run P w=.ok (.value (.slice (some ⟨w.heap.size,0,none⟩) len len)) (w.alloc (.cells (xs.flatMap c).toArray e (0,0))):=by
    have h0:¬ len * sz=0:=by
     have:0<len * sz:=by simpa [Nat.blt_eq] using hne
     omega
    simp only [execOp,ho,Instr.buildSlice,Sem.run_bind,run_underlying hT.ty,Result.andThen_ok,hT.run,hle,h0,Sem.run_ite,if_false,hzr,Sem.run_pure,hm,hc,newRow,run_newObj]
    rfl
   refine A3b (by rw [ho];rfl) ?_
   unfold Oper.wp
   rw [hr]
   refine hk w.heap.size _ ?_
   have:=(hs.world.alloc (.cells (xs.flatMap c).toArray e (0,0))).freeze (i:=0) rfl
   refine this.foll fun p hp q hq=>?_
   rcases List.mem_cons.1 hq with rfl | hq
   ·have hb:p w.heap.size=some (.cells (xs.flatMap c).toArray e (0,0)):=hp (blk w.heap.size (.cells (xs.flatMap c).toArray e (0,0))) (by simp)
    exact .inr ⟨rfl,_,_,_,hb,fun j v hj=>by simpa using hj⟩
   ·exact hp q (by simp [hq])
  ·cases hc
end
end Go.Fen
set_option linter.unusedVariables false
set_option linter.unusedSimpArgs false
namespace Go.Fen
open Go Go.RowKit
section
variable {P:Program} {n:Nat} {X:Cx} {K:Act→World→Prop} {Q:Exit→Act→World→Prop} {E E':Env} {L L':Own} {Φ Φ':List Pers}
def O7 (Φ:List Pers) (q:Pers):Prop:=∀ p:Hp,(∀ q ∈ Φ,q.p p)→q.p p
theorem B5 {q:Pers} (j:Nat) (h:Φ[j]?=some q):O7 Φ q:=fun _ hp=>hp q (List.mem_of_getElem? h)
theorem D5y {α:Type} {c:α→List Value} {sz:Nat} {a:Addr} {xs:List α} (hc:∀ x,(c x).length=sz) (j:Nat) (h:Φ[j]?=some (sl c (some a) xs)) {k:Nat} {v:α} (hv:xs[k]?=some v):O7 Φ (at_ (a.add (k * sz)) (c v)) :=
 fun p hp=>A2v.sub hc (show A2v p a (xs.flatMap c) from hp _ (List.mem_of_getElem? h)) hv
theorem A3x {a:Addr} {us ws:List Value} (h:O7 Φ (at_ a us)) (off n:Nat) (hu:(us.drop off).take n=ws):O7 Φ (at_ (a.add off) ws):=fun p hp=>by
 obtain ⟨b,o,sp⟩:=a
 obtain hn | ⟨h0,c,T,fr,h1,h2⟩:=h p hp
 ·exact .inl (by rw [← hu,hn];simp)
 simp only at h0 h1 h2
 subst h0
 rw [U3]
 refine .inr ⟨rfl,c,T,fr,h1,fun j v hj=>?_⟩
 have:=h2 (off+j) v (by
  rw [← hu,List.getElem?_take] at hj
  split at hj
  ·rwa [List.getElem?_drop] at hj
  ·cases hj)
 simpa [Nat.add_assoc] using this
theorem A0g {a:Addr} {us ws:List Value} (h:O7 Φ (at_ a us)) (n:Nat) (hu:us.take n=ws):O7 Φ (at_ a ws):=by
 have:=A3x h 0 n (ws:=ws) (by simpa using hu)
 simpa [Addr.add] using this
theorem L4 {o:Oper} {T sz:Nat} {x:Operand} {a:Addr} {us:List Value} (hT:Ty P T sz true) (ho:o.op=.load T x) (hx:ev E x=some (.pointer (some a))) (hΦ:O7 Φ (at_ a us)) (hn:us.length=sz) :
  I9 P X o E L Φ (.agg us.toArray):=.of_run fun ac w ha ⟨p,hp⟩=>by
 have hc:A2v p a us:=hΦ p hp.facts
 simp [execOp,ho,C0 ha hx,A8o hT hn fun j v hj=>hc.cell hp.sub hj]
theorem C8 {o:Oper} {T:Nat} {x:Operand} {a:Addr} {v:Value} {us:List Value} (hT:Ty P T 1 false) (ho:o.op=.load T x) (hx:ev E x=some (.pointer (some a))) (hΦ:O7 Φ (at_ a us)) (hv:us[0]?=some v) :
  I9 P X o E L Φ v:=.of_run fun ac w ha ⟨p,hp⟩=>by
 have hc:A2v p a us:=hΦ p hp.facts
 simp [execOp,ho,C0 ha hx,A8l hT (hc.cell (j:=0) hp.sub hv)]
theorem Q9 {o:Oper} {T e sz len b off:Nat} {agg:Bool} {x y:Operand} {m:Int} (hT:P.underlying T=some (.array len e)) (he:Ty P e sz agg) (ho:o.op=.indexAddr T x y)
  (hx:ev E x=some (.pointer (some ⟨b,off,none⟩))) (hy:ev E y=some (.int .i64 m)) (k:Nat) (hk:m=k) (hl:Nat.blt k len=true):I9 P X o E L Φ (.pointer (some ⟨b,off+k * sz,none⟩)) :=
 .of_run fun ac w ha _=>by
  subst hk
  have hl':k<len:=by simpa [Nat.blt_eq] using hl
  have h1:(0:Int)≤k∧(k:Int)<len:=by omega
  simp [execOp,ho,C0 ha hx,C0 ha hy,Instr.indexAt,asIntOf,run_underlying hT,Instr.sureAddr,he.size,h1,Nat.not_le.2 hl',U3]
theorem R6 {c:Code} (k:Nat) (h:JQ n X (Code.roundsIn (FW X.rho) 0 P c Q k) E L Φ):J P n X (.loop c) Q E L Φ:=fun a w hs=>wpIn_loop_rounds k (h a w hs)
theorem D7 {c:Code} {k:Nat} (h:J P n X c (Exit.then (Code.roundsIn (FW X.rho) 0 P c Q k) Q) E L Φ):JQ n X (Code.roundsIn (FW X.rho) 0 P c Q (k+1)) E L Φ:=fun a w hs=>by
 rw [roundsIn_succ];exact h a w hs
theorem A2.con1 {q:Pers} (h:O7 Φ q) (k:A2 Φ Φ'):A2 Φ (q::Φ'):=A2.cons h k
end
end Go.Fen
set_option linter.unusedVariables false
set_option linter.unusedSimpArgs false
namespace Go.Fen
open Go Go.RowKit
abbrev iv (n:Int):Value:=.int .i64 n
abbrev bv (b:Bool):Value:=.bool b
abbrev pt (b o:Nat):Value:=.pointer (some ⟨b,o,none⟩)
abbrev pa (a:Addr):Value:=.pointer (some a)
abbrev sv (l:List UInt8):Value:=.string (bs l)
section
variable {P:Program} {n:Nat} {X:Cx} {K:Act→World→Prop} {Q:Exit→Act→World→Prop} {E E':Env} {L L':Own} {Φ Φ':List Pers}
def A8n (E:Env) (t:Nat):Bool:=match E.lookup t with | some _=>true | none=>false
def B5t (ops:Array Oper) (E new:Env):Nat→Nat→Bool
 | 0,_=>true
 | k+1,i=>(match (ops[i]?).bind (·.dst) with
  | some d=>A8n new d||!A8n E d
  | none=>true)&&B5t ops E new k (i+1)
theorem A6v (A B:Env) (t:Nat):(A++B).lookup t=match A.lookup t with | some v=>some v | none=>B.lookup t:=by
 induction A with
 | nil=>rfl
 | cons p A ih =>
  obtain ⟨u,v⟩:=p
  by_cases h:t=u
  ·subst h;simp [List.lookup]
  ·have:(t == u)=false:=by simpa using h
   simp only [List.cons_append,List.lookup,this];exact ih
theorem B4x {ops:Array Oper} {new:Env} {t:Nat} {v:Value} (E0:Env) (h0:E0.lookup t=some v) (hn:new.lookup t=none):∀ (k i:Nat) {E R:Env},B5t ops E0 new k i=true→A1u P n ops k i E=some R→E.lookup t=some v→R.lookup t=some v
 | 0,i,E,R,_,h,he=>by simp [A1u] at h;subst h;exact he
 | k+1,i,E,R,hk,h,he=>by
  unfold A1u at h
  unfold B5t at hk
  simp only [Bool.and_eq_true] at hk
  split at h
  ·rename_i o ho
   split at h
   ·rename_i E1 h1
    refine B4x E0 h0 hn k (i+1) hk.2 h ?_
    have hd:o.dst≠some t:=by
     intro hd
     have:=hk.1
     simp only [ho,Option.bind_some,hd,A8n,hn,h0] at this
     simp at this
    have put:∀ u,(Env.put E o.dst u).lookup t=some v:=by
     intro u
     cases hdst:o.dst with
     | none=>exact he
     | some d =>
      have:(t == d)=false:=by simp;intro e;exact hd (by rw [hdst,e])
      simp only [Env.put,List.lookup,this];exact he
    unfold A5y at h1
    split at h1
    ·split at h1
     ·simp only [Option.some.injEq] at h1;subst h1;exact put _
     ·cases h1
    ·simp only [Option.some.injEq] at h1;subst h1;exact put _
    ·cases h1
   ·cases h
  ·cases h
def A3i (P:Program) (n:Nat) (ops:Array Oper) (k i:Nat) (E new:Env):Option Env:=if B5t ops E new k i then C9h P n ops k i E new else none
theorem B9l {ops:Array Oper} {k i:Nat} {new:Env} (h:A3i P n ops k i E new=some new):∃ R,A1u P n ops k i E=some R∧∀ a,Has a R→Has a (new++E):=by
 unfold A3i at h
 split at h
 ·rename_i hk
  unfold C9h at h
  split at h
  ·rename_i R hR
   refine ⟨R,hR,fun a ha t v e=>?_⟩
   rw [A6v] at e
   split at e
   ·rename_i u hu
    exact (ha.weaken (I2 (B0m h))) t v (by rw [hu];exact e)
   ·rename_i hu
    exact ha t v (B4x E e hu k i hk hR e)
  ·cases h
 ·cases h
theorem ip {ops:Array Oper} {i:Nat} (k m:Nat) (new:Env) (h:A3i P n ops k i E new=some new) (g:JI P n X ops (i+k) m K Q (new++E) L Φ):JI P n X ops i (k+m) K Q E L Φ:=by
 obtain ⟨R,hR,hh⟩:=B9l h
 exact C9r k i hR fun a w hs=>g a w ⟨hs.size,hs.defers,hh a hs.has,hs.world⟩
theorem dp {ops:Array Oper} {i:Nat} (k m:Nat) (new:Env) (h:A3i P n ops k i E new=some new) (g:JD P n X ops (i+k) m K (new++E) L Φ):JD P n X ops i (k+m) K E L Φ:=by
 obtain ⟨R,hR,hh⟩:=B9l h
 exact C8q k i hR fun a h1 h2 ha=>g a h1 h2 (hh a ha)
def B4j (n:Nat) (ops:Array Oper) (i:Nat) (E:Env):Option Oper :=
 match ops[i]? with
 | some o=>if (A6h ops o E == some true)&&X5 n o.dst then some o else none
 | none=>none
theorem O6 {ops:Array Oper} {i:Nat} {o:Oper} (h:B4j n ops i E=some o):ops[i]?=some o∧A6h ops o E=some true∧X5 n o.dst=true:=by
 unfold B4j at h
 split at h
 ·rename_i o' ho
  split at h
  ·rename_i hc
   simp only [Option.some.injEq] at h;subst h
   simp only [Bool.and_eq_true,beq_iff_eq] at hc
   exact ⟨ho,hc.1,hc.2⟩
  ·cases h
 ·cases h
theorem it {ops:Array Oper} {i m:Nat} {o:Oper} {α:Type} {val:α→Value} {L':α→Own} {Φ':α→List Pers} (ho:B4j n ops i E=some o) (ht:Tri P n X o E L Φ α val L' Φ')
  (h:∀ x,JI P n X ops (i+1) m K Q (Env.put E o.dst (val x)) (L' x) (Φ' x)):JI P n X ops i (m+1) K Q E L Φ:=B6d (O6 ho).1 (O6 ho).2.1 (O6 ho).2.2 ht h
theorem ix {ops:Array Oper} {i m:Nat} {o:Oper} {v:Value} (ho:B4j n ops i E=some o) (ht:I9 P X o E L Φ v)
  (h:JI P n X ops (i+1) m K Q (Env.put E o.dst v) L Φ):JI P n X ops i (m+1) K Q E L Φ:=C0m (O6 ho).1 (O6 ho).2.1 (O6 ho).2.2 ht.det h
theorem ixc {ops:Array Oper} {i m:Nat} {o:Oper} {v:Value} (ho:B4j n ops i E=some o) (ht:Det P X o E L Φ v)
  (h:JI P n X ops (i+1) m K Q (Env.put E o.dst v) L Φ):JI P n X ops i (m+1) K Q E L Φ:=C0m (O6 ho).1 (O6 ho).2.1 (O6 ho).2.2 ht h
theorem dd {ops:Array Oper} {i m:Nat} {o:Oper} {v:Value} (ho:B4j n ops i E=some o) (ht:I9 P X o E L Φ v)
  (h:JD P n X ops (i+1) m K (Env.put E o.dst v) L Φ):JD P n X ops i (m+1) K E L Φ:=B9z (O6 ho).1 (O6 ho).2.1 (O6 ho).2.2 ht.det h
theorem ddc {ops:Array Oper} {i m:Nat} {o:Oper} {v:Value} (ho:B4j n ops i E=some o) (ht:Det P X o E L Φ v)
  (h:JD P n X ops (i+1) m K (Env.put E o.dst v) L Φ):JD P n X ops i (m+1) K E L Φ:=B9z (O6 ho).1 (O6 ho).2.1 (O6 ho).2.2 ht h
theorem D4p {ops:Array Oper} {i:Nat} (k m t p:Nat) {g:Bool} (x:Bool) (ht:E.lookup t=some (.bool g)) (hf:A3i P n ops k i ((t,.bool false)::E) [(p,.bool false)]=some [(p,.bool false)])
  (h1:g=true→JI P n X ops i k (fun a w=>St n X ((p,.bool x)::E) L Φ a w) Q ((t,.bool true)::E) L Φ) (h:JI P n X ops (i+k) m K Q ((p,.bool (g&&x))::E) L Φ):JI P n X ops i (k+m) K Q E L Φ:=by
 refine C9c k m ((p,.bool (g&&x))::E) L Φ (C4c t g ht (fun e=>?_) (fun e=>?_)) h
 ·subst e;exact h1 rfl
 ·subst e
  refine ip k 0 _ hf (A1 fun a w hs=>⟨hs.size,hs.defers,?_,hs.world⟩)
  intro u v hu
  by_cases hup:u=p
  ·subst hup;simp [List.lookup] at hu;subst hu;exact hs.has _ _ (by simp [List.lookup])
  ·have hb:(u == p)=false:=by simpa using hup
   simp only [List.lookup,hb] at hu
   by_cases hut:u=t
   ·subst hut;rw [ht] at hu;simp at hu;subst hu;exact hs.has _ _ (by simp [List.lookup,hb])
   ·have hc:(u == t)=false:=by simpa using hut
    exact hs.has _ _ (by simp [List.lookup,hb,hc,hu])
theorem ior {ops:Array Oper} {i:Nat} (k m t p:Nat) {g:Bool} (x:Bool) (ht:E.lookup t=some (.bool g)) (hf:A3i P n ops k i ((t,.bool true)::E) [(p,.bool true)]=some [(p,.bool true)])
  (h1:g=false→JI P n X ops i k (fun a w=>St n X ((p,.bool x)::E) L Φ a w) Q ((t,.bool false)::E) L Φ) (h:JI P n X ops (i+k) m K Q ((p,.bool (g||x))::E) L Φ):JI P n X ops i (k+m) K Q E L Φ:=by
 refine C9c k m ((p,.bool (g||x))::E) L Φ (C4c t g ht (fun e=>?_) (fun e=>?_)) h
 ·subst e
  refine ip k 0 _ hf (A1 fun a w hs=>⟨hs.size,hs.defers,?_,hs.world⟩)
  intro u v hu
  by_cases hup:u=p
  ·subst hup;simp [List.lookup] at hu;subst hu;exact hs.has _ _ (by simp [List.lookup])
  ·have hb:(u == p)=false:=by simpa using hup
   simp only [List.lookup,hb] at hu
   by_cases hut:u=t
   ·subst hut;rw [ht] at hu;simp at hu;subst hu;exact hs.has _ _ (by simp [List.lookup,hb])
   ·have hc:(u == t)=false:=by simpa using hut
    exact hs.has _ _ (by simp [List.lookup,hb,hc,hu])
 ·subst e;exact h1 rfl
theorem D4w {ops:Array Oper} {i:Nat} (k m t p:Nat) {g:Bool} (x:Bool) (ht:E.lookup t=some (.bool g)) (hf:A3i P n ops k i ((t,.bool false)::E) [(p,.bool false)]=some [(p,.bool false)])
  (h1:g=true→JD P n X ops i k (fun a _=>a.tmps.size=n∧a.defers=X.marks∧Has a ((p,.bool x)::E)) ((t,.bool true)::E) L Φ) (h:JD P n X ops (i+k) m K ((p,.bool (g&&x))::E) L Φ):JD P n X ops i (k+m) K E L Φ:=by
 refine C9e k m ((p,.bool (g&&x))::E) (C2a t g ht (fun e=>?_) (fun e=>?_)) h
 ·subst e;exact h1 rfl
 ·subst e
  refine dp k 0 _ hf (A9r fun a w hs=>⟨hs.size,hs.defers,?_⟩)
  intro u v hu
  by_cases hup:u=p
  ·subst hup;simp [List.lookup] at hu;subst hu;exact hs.has _ _ (by simp [List.lookup])
  ·have hb:(u == p)=false:=by simpa using hup
   simp only [List.lookup,hb] at hu
   by_cases hut:u=t
   ·subst hut;rw [ht] at hu;simp at hu;subst hu;exact hs.has _ _ (by simp [List.lookup,hb])
   ·have hc:(u == t)=false:=by simpa using hut
    exact hs.has _ _ (by simp [List.lookup,hb,hc,hu])
theorem dor {ops:Array Oper} {i:Nat} (k m t p:Nat) {g:Bool} (x:Bool) (ht:E.lookup t=some (.bool g)) (hf:A3i P n ops k i ((t,.bool true)::E) [(p,.bool true)]=some [(p,.bool true)])
  (h1:g=false→JD P n X ops i k (fun a _=>a.tmps.size=n∧a.defers=X.marks∧Has a ((p,.bool x)::E)) ((t,.bool false)::E) L Φ) (h:JD P n X ops (i+k) m K ((p,.bool (g||x))::E) L Φ):JD P n X ops i (k+m) K E L Φ:=by
 refine C9e k m ((p,.bool (g||x))::E) (C2a t g ht (fun e=>?_) (fun e=>?_)) h
 ·subst e
  refine dp k 0 _ hf (A9r fun a w hs=>⟨hs.size,hs.defers,?_⟩)
  intro u v hu
  by_cases hup:u=p
  ·subst hup;simp [List.lookup] at hu;subst hu;exact hs.has _ _ (by simp [List.lookup])
  ·have hb:(u == p)=false:=by simpa using hup
   simp only [List.lookup,hb] at hu
   by_cases hut:u=t
   ·subst hut;rw [ht] at hu;simp at hu;subst hu;exact hs.has _ _ (by simp [List.lookup,hb])
   ·have hc:(u == t)=false:=by simpa using hut
    exact hs.has _ _ (by simp [List.lookup,hb,hc,hu])
 ·subst e;exact h1 rfl
def B4n (E:Env) (t p:Nat):Env→Bool
 | []=>true
 | (u,_)::rest=>(u == t||u == p||!A8n E u)&&B4n E t p rest
theorem C6e {R:Env} (c t p:Nat) {v:Value} {g b:Bool} (hg:g=b) (hR:R.drop c=E) (hf:B4n E t p (R.take c)=true) (ht:E.lookup t=some (.bool g)) (htR:R.lookup t=some (.bool b)) (hp:R.lookup p=some v) {a:Act} (ha:Has a R):Has a ((p,v)::E):=by
 intro u x hu
 by_cases hup:u=p
 ·subst hup;simp [List.lookup] at hu;subst hu;exact ha _ _ hp
 ·have hb:(u == p)=false:=by simpa using hup
  simp only [List.lookup,hb] at hu
  by_cases hut:u=t
  ·subst hut;rw [ht] at hu;simp at hu;subst hu;subst hg;exact ha _ _ htR
  ·refine ha _ _ ?_
   have key:∀ A:Env,B4n E t p A=true→(A++E).lookup u=some x:=by
    intro A
    induction A with
    | nil=>intro _;exact hu
    | cons q A ih =>
     obtain ⟨u',v'⟩:=q
     intro h
     simp only [B4n,Bool.and_eq_true,Bool.or_eq_true,beq_iff_eq,Bool.not_eq_true'] at h
     have hne:(u == u')=false:=by
      rcases h.1 with (h1 | h1) | h1
      ·subst h1;simpa using hut
      ·subst h1;simpa using hup
      ·by_cases e:u=u'
       ·subst e;simp [A8n,hu] at h1
       ·simpa using e
     simp only [List.cons_append,List.lookup,hne]
     exact ih h.2
   rw [← List.take_append_drop c R,hR]
   exact key _ hf
theorem H1 {R:Env} (c t p:Nat) {v:Value} {g b:Bool} (hg:g=b) (hΦ:A2 Φ' Φ) (hL:List.Sublist L L') (hR:R.drop c=E) (hf:B4n E t p (R.take c)=true) (ht:E.lookup t=some (.bool g)) (htR:R.lookup t=some (.bool b)) (hp:R.lookup p=some v):JQ n X (fun a w=>St n X ((p,v)::E) L Φ a w) R L' Φ' :=
 fun _ _ hs=>⟨hs.size,hs.defers,C6e c t p hg hR hf ht htR hp hs.has,(hs.world.sub hL).foll hΦ⟩
theorem D7a {R:Env} (c t p:Nat) {v:Value} {g b:Bool} (hg:g=b) (hR:R.drop c=E) (hf:B4n E t p (R.take c)=true) (ht:E.lookup t=some (.bool g)) (htR:R.lookup t=some (.bool b)) (hp:R.lookup p=some v):JQ n X (fun a _=>a.tmps.size=n∧a.defers=X.marks∧Has a ((p,v)::E)) R L Φ :=
 fun _ _ hs=>⟨hs.size,hs.defers,C6e c t p hg hR hf ht htR hp hs.has⟩
theorem sr {id:Nat} {ops:Array Oper} {y:Code} (m:Nat) (hm:ops.size=m) (h:JI P n X ops 0 m (fun a w=>y.wpIn (FW X.rho) 0 P Q a w) (Exit.then (fun a w=>y.wpIn (FW X.rho) 0 P Q a w) Q) E L Φ):J P n X (.seq (.region id ops false) y) Q E L Φ:=A3 (A5 m hm h)
theorem sd {id:Nat} {ops:Array Oper} {y:Code} (m:Nat) (hM:P.follows .mixedOrders=true) (hB:Region.lexB .any ops=true) (hm:ops.size=m) (h:JD P n X ops 0 m (fun a w=>y.wpIn (FW X.rho) 0 P Q a w) E L Φ):J P n X (.seq (.region id ops true) y) Q E L Φ:=A3 (B6n m hM hB hm h)
theorem ie {ops:Array Oper} {i:Nat} {y:Code} (h:J P n X y Q E L Φ) {Q':Exit→Act→World→Prop}:JI P n X ops i 0 (fun a w=>y.wpIn (FW X.rho) 0 P Q a w) Q' E L Φ:=A1 h
theorem de {ops:Array Oper} {i:Nat} {y:Code} (h:J P n X y Q E L Φ):JD P n X ops i 0 (fun a w=>y.wpIn (FW X.rho) 0 P Q a w) E L Φ:=A9r h
theorem nx {y:Code} (h:J P n X y Q E L Φ):JQ n X (fun a w=>y.wpIn (FW X.rho) 0 P Q a w) E L Φ:=h
end
end Go.Fen
set_option linter.unusedVariables false
set_option linter.unusedSimpArgs false
namespace Go.Fen
open Go Go.RowKit
set_option linter.unusedSimpArgs false
set_option linter.unusedVariables false
section
variable {P:Program} {ops:Array Oper} {Q:Exit→Act→World→Prop} {S:World→Prop} {ρ:Option Nat}
def A1w (ops:Array Oper):Bool:=ops.all fun o=>!B2r o.op
theorem B5v (h:A1w ops=true) {i:Nat} {o:Oper} (hi:ops[i]?=some o):B2r o.op=false:=by
 obtain ⟨h1,h2⟩:=Array.getElem?_eq_some_iff.1 hi
 have:=(Array.all_eq_true.1 h) i h1
 rw [h2] at this;simpa using this
def AH (ρ:Option Nat) (P:Program) (ops:Array Oper) (Q:Exit→Act→World→Prop) (S:Array Bool→World→Prop):Nat→Array Bool→Act→World→Prop
 | 0,listed,a,w=>Region.ready .any ops listed=[]∧Q .normal a w
 | fuel+1,listed,a,w =>
  (Region.ready .any ops listed=[]→Q .normal a w) ∧
  ∀ i ∈ Region.ready .any ops listed,wpOpIn (FW ρ) 0 P ops Q i (fun a' w'=>S (listed.setIfInBounds i true) w'∧AH ρ P ops Q S fuel (listed.setIfInBounds i true) a' w') a w
theorem B3l {i:Nat} {K K':Act→World→Prop} {a:Act} {w:World} (h:∀ a w,K a w→K' a w) (hh:wpOpIn (FW ρ) 0 P ops Q i K a w):wpOpIn (FW ρ) 0 P ops Q i K' a w:=by
 unfold wpOpIn at *
 split
 ·rename_i ho;simp only [ho] at hh;exact h _ _ hh
 ·rename_i o ho
  simp only [ho] at hh
  split
  ·rename_i hw;simp only [hw,if_true] at hh;exact ⟨hh.1,B4z h (fun _ _ _ h=>h) (fun h=>h) hh.2⟩
  ·rename_i hw;simp only [hw] at hh;exact ⟨hh.1,h _ _ hh.2⟩
theorem C7u {S:Array Bool→World→Prop}:∀ (fuel:Nat) (listed:Array Bool) (a:Act) (w:World),AH ρ P ops Q S fuel listed a w→wpAnyIn (FW ρ) 0 P .any ops Q fuel listed a w
 | 0,_,_,_,h=>h
 | fuel+1,_,_,_,h=>⟨h.1,fun i hi=>B3l (fun a' w' h'=>C7u fuel _ a' w' h'.2) (h.2 i hi)⟩
theorem B9j {i:Nat} {o:Oper} {v:Value} {a:Act} (hnd:A1w ops=true) (hi:ops[i]?=some o) (hy:YieldsIf P ops S o v a)
  {K:Act→World→Prop} {w:World} (hS:S w) (h:K (a.put o.dst v) w):wpOpIn (FW ρ) 0 P ops Q i K a w:=by
 unfold wpOpIn
 simp only [hi]
 rcases hy with ⟨hw,hv⟩ | ⟨hw,rfl⟩
 ·simp only [hw,if_true]
  refine A3b (B5v hnd hi) ?_
  simp only [Oper.wp,hv w hS,Oper.upon];exact h
 ·simp only [hw,Bool.false_eq_true,if_false];exact ⟨fun _ _=>trivial,h⟩
theorem C4i {j:Nat} {oi oj:Oper} {v:Value} (hnd:A1w ops=true) (hj:ops[j]?=some oj) (hap:oi.apart ops oj=true)
  (hsi:∀ cs b,oi.op≠.select cs b) (hsj:∀ cs b,oj.op≠.select cs b)
  (hQ:∀ c a w,Q (.panic c) (a.put oi.dst v) w→Q (.panic c) a w) {K:Act→World→Prop} {a:Act} {w:World}
  (hy:YieldsIf P ops S oi v a) (h:wpOpIn (FW ρ) 0 P ops Q j K (a.put oi.dst v) w) :
  wpOpIn (FW ρ) 0 P ops Q j (fun a' w'=>YieldsIf P ops S oi v a'∧K (a'.put oi.dst v) w') a w:=by
 obtain ⟨h1,h2,h3⟩:=Oper.apart_spec hap
 have hnj:=B5v hnd hj
 have B1s:∀ (a:Act),YieldsIf P ops S oi v a→∀ u,YieldsIf P ops S oi v (a.put oj.dst u):=fun a hy u =>
  hy.of_same (execOp_put oi hsi a oj.dst u h3) (wanted_put oi a oj.dst u h3)
 have keepD:∀ d,YieldsIf P ops S oi v {a with defers:=d::a.defers}:=fun d=>hy.of_same rfl rfl
 unfold wpOpIn at *
 simp only [hj] at *
 rw [wanted_put oj a oi.dst v h1] at h
 split
 ·rename_i hw
  simp only [hw,if_true] at h
  have hsem:∀ (b:Act),oj.semAt (FW ρ).round b.eval=execOp b.eval oj:=fun b=>Oper.semAt_eq _ _ _ (fun c hc=>by rw [hc] at hnj;cases hnj)
  refine ⟨fun _ _=>trivial,?_⟩
  obtain ⟨_,h⟩:=h
  rw [hsem] at h ⊢
  rw [execOp_put oj hsj a oi.dst v h1] at h
  generalize (execOp a.eval oj).run P w=r at *
  cases r with
  | ok n w' =>
   cases n<;>simp only [Oper.uponIn] at h ⊢
   case value u=>exact ⟨B1s a hy u,by rw [← Act.put_comm a v u h2];exact h⟩
   case skip=>exact ⟨B1s a hy _,by rw [← Act.put_comm a v undef h2];exact h⟩
   case defer d =>
    refine ⟨B1s _ (keepD d) _,?_⟩
    rw [← Act.put_comm _ v undef h2,← Act.put_defers]
    exact h
   case enter f args =>
    refine ⟨h.1,h.2.mono fun e w'' he=>?_⟩
    cases e with
    | returned u=>exact ⟨B1s a hy u,by rw [← Act.put_comm a v u h2];exact he⟩
    | panicked c=>exact hQ _ _ _ he
    | outgrown=>exact he
   case row row args=>exact ⟨h.1,h.2.mono fun u w'' he=>⟨B1s a hy u,by rw [← Act.put_comm a v u h2];exact he⟩⟩
   case round l f tmps assign body =>
    refine ⟨h.1,h.2.mono fun e w'' he=>?_⟩
    cases e with
    | returned u=>exact ⟨B1s a hy u,by rw [← Act.put_comm a v u h2];exact he⟩
    | panicked c=>exact hQ _ _ _ he
    | outgrown=>exact he
  | halt x w' =>
   cases x<;>simp only [Oper.uponIn] at h ⊢
   case panic u=>exact hQ _ _ _ h
 ·rename_i hw
  simp only [hw] at h
  exact ⟨fun _ _=>trivial,B1s a hy _,by rw [← Act.put_comm a v undef h2];exact h.2⟩
def B7i (ops:Array Oper) (i e:Nat):Bool:=match ops[e]? with
 | some o=>o.after.any fun d=>d.on == i&&Region.binds .any d
 | none=>false
theorem B5y {i e:Nat} {listed:Array Bool} (hl:B7i ops i e=true) (hi:listed.getD i true=false):e ∉ Region.ready .any ops listed:=by
 intro he
 obtain ⟨_,o,ho,hall⟩:=mem_ready.1 he
 unfold B7i at hl
 rw [ho] at hl
 simp only [Array.any_eq_true',Bool.and_eq_true,beq_iff_eq] at hl
 obtain ⟨d,hd,h1,h2⟩:=hl
 have h3:=hall d hd h2
 rw [h1] at h3
 rcases Nat.lt_or_ge i listed.size with h' | h'
 ·simp [h'] at hi h3;rw [hi] at h3;cases h3
 ·simp [Array.getElem?_eq_none h'] at hi
theorem C8s {S:Array Bool→World→Prop} {i:Nat} {oi:Oper} {v:Value} (hnd:A1w ops=true) (hi:ops[i]?=some oi) (hsel:∀ (j:Nat) (o:Oper) cs b,ops[j]?=some o→o.op≠.select cs b)
  (hQ:∀ c a w,Q (.panic c) (a.put oi.dst v) w→Q (.panic c) a w) (Y:World→Prop) (hSi:∀ (listed:Array Bool) w,S (listed.setIfInBounds i true) w ↔ S listed w) (hY:∀ listed:Array Bool,(∀ e,B7i ops i e=true→listed.getD e false=false)→∀ w,S listed w→Y w) :
  ∀ (fuel:Nat) (listed:Array Bool) (a:Act) (w:World),
   (∀ j oj,ops[j]?=some oj→j≠i→listed.getD j true=false→(∀ e ∈ oj.after,Region.binds .any e=true→e.on≠i)→oi.apart ops oj=true) →
   (∀ e,B7i ops i e=true→listed.getD e false=false) →
   i ∈ Region.ready .any ops listed→YieldsIf P ops Y oi v a→S listed w →
   AH ρ P ops Q S fuel (listed.setIfInBounds i true) (a.put oi.dst v) w→AH ρ P ops Q S (fuel+1) listed a w:=by
 intro fuel
 induction fuel with
 | zero =>
  intro listed a w _ hlate hr hy hS H
  refine ⟨fun h=>(by rw [h] at hr;cases hr),fun j hj=>?_⟩
  by_cases hji:j=i
  ·subst hji;exact B9j hnd hi hy (hY _ hlate _ hS) ⟨(hSi _ _).2 hS,H⟩
  ·have:=ready_mono hj hji
   rw [H.1] at this
   cases this
 | succ fuel ih =>
  intro listed a w hfree hlate hr hy hS H
  refine ⟨fun h=>(by rw [h] at hr;cases hr),fun j hj=>?_⟩
  by_cases hji:j=i
  ·subst hji;exact B9j hnd hi hy (hY _ hlate _ hS) ⟨(hSi _ _).2 hS,H⟩
  ·have h1:=H.2 j (ready_mono hj hji)
   obtain ⟨hjun,oj,hoj,hall⟩:=mem_ready.1 hj
   have hiun:=(mem_ready.1 hr).1
   have hnot:∀ e ∈ oj.after,Region.binds .any e=true→e.on≠i:=fun e he hb heq=>by
    have h1:=hall e he hb
    rw [heq] at h1
    rcases Nat.lt_or_ge i listed.size with h' | h'
    ·simp [h'] at hiun h1;rw [hiun] at h1;cases h1
    ·simp [Array.getElem?_eq_none h'] at hiun
   have h2:=C4i hnd hoj (hfree j oj hoj hji hjun hnot) (fun cs b=>hsel i oi cs b hi) (fun cs b=>hsel j oj cs b hoj) hQ hy h1
   have hfree':∀ k ok,ops[k]?=some ok→k≠i→(listed.setIfInBounds j true).getD k true=false →
     (∀ e ∈ ok.after,Region.binds .any e=true→e.on≠i)→oi.apart ops ok=true:=fun k ok hk hki hun hno=>by
    refine hfree k ok hk hki ?_ hno
    by_cases hjk:j=k
    ·subst hjk;exact hjun
    ·rw [getD_set_ne true hjk] at hun;exact hun
   have hlate':∀ e,B7i ops i e=true→(listed.setIfInBounds j true).getD e false=false:=fun e he=>by
    by_cases hje:j=e
    ·subst hje;exact absurd hj (B5y he hiun)
    ·rw [getD_set_ne false hje];exact hlate e he
   refine B3l (fun a' w' h3=>?_) h2
   obtain ⟨y,hs,hh⟩:=h3
   rw [Array.setIfInBounds_comm _ _ (Ne.symm hji)] at hs hh
   have hs':=(hSi _ _).1 hs
   exact ⟨hs',ih (listed.setIfInBounds j true) a' w' hfree' hlate' (ready_mono hr (Ne.symm hji)) y hs' hh⟩
end
section
variable {P:Program} {n:Nat} {X:Cx} {K:Act→World→Prop} {Q:Exit→Act→World→Prop} {E E':Env} {L L' Ls:Own} {Φ Φ' Φs:List Pers}
def oN (K:Act→World→Prop):Exit→Act→World→Prop
 | .normal,a,w=>K a w
 | _,_,_=>False
abbrev Y9:=List (Nat×Own)
def Y9.at (held:Y9) (listed:Array Bool):Own:=((held.filter fun p=>!(listed.getD p.1 false)).map (·.2)).flatten
def Y9.of (held:Y9) (ops:Array Oper) (i:Nat):Own:=((held.filter fun p=>B7i ops i p.1||!(Nat.blt p.1 ops.size)).map (·.2)).flatten
theorem B4m {α:Type} {l l':List (List α)} (h:l.Sublist l'):l.flatten.Sublist l'.flatten:=by
 induction h with
 | slnil=>exact List.Sublist.slnil
 | cons a _ ih=>rw [List.flatten_cons];exact ih.trans (List.sublist_append_right _ _)
 | cons_cons a _ ih=>rw [List.flatten_cons,List.flatten_cons];exact (List.Sublist.refl _).append ih
theorem B7d {α:Type} {p q:α→Bool}:∀ (l:List α),(∀ x ∈ l,p x=true→q x=true)→(l.filter p).Sublist (l.filter q)
 | [],_=>List.Sublist.slnil
 | x::l,h=>by
  have ih:=B7d l fun y hy=>h y (List.mem_cons_of_mem _ hy)
  rw [List.filter_cons,List.filter_cons]
  by_cases hp:p x=true
  ·rw [if_pos hp,if_pos (h x (List.mem_cons_self ..) hp)];exact ih.cons_cons x
  ·rw [if_neg hp]
   split
   ·exact ih.cons x
   ·exact ih
theorem Y9.of_at {held:Y9} {ops:Array Oper} {i:Nat} {listed:Array Bool} (hs:listed.size≤ops.size) (h:∀ e,B7i ops i e=true→listed.getD e false=false):(held.of ops i).Sublist (held.at listed):=by
 refine B4m ((B7d _ fun x _ hx=>?_).map _)
 simp only [Bool.or_eq_true,Bool.not_eq_true'] at hx ⊢
 rcases hx with hx | hx
 ·exact h _ hx
 ·have:¬ x.1<ops.size:=fun h'=>by have:=Nat.ble_eq_true_of_le h';unfold Nat.blt at hx;rw [hx] at this;cases this
  simp [Array.getElem?_eq_none (show listed.size≤x.1 by omega)]
theorem Y9.at_set {held:Y9} {i:Nat} {listed:Array Bool} (h:held.all (fun p=>!(p.1 == i))=true):held.at (listed.setIfInBounds i true)=held.at listed:=by
 unfold Y9.at
 congr 2
 refine List.filter_congr fun x hx=>?_
 have:=List.all_eq_true.1 h x hx
 have hne:i≠x.1:=by simp at this;exact fun e=>this e.symm
 rw [getD_set_ne false hne]
structure JH (P:Program) (n:Nat) (X:Cx) (ops:Array Oper) (fuel:Nat) (listed:Array Bool) (K:Act→World→Prop) (held:Y9) (Φs:List Pers) (E:Env) (L:Own) (Φ:List Pers):Prop where
 go:A1w ops=true→Region.noSelect ops=true→listed.size=ops.size→(held.at listed).Sublist L→A2 Φ Φs→∀ a w,St n X E L Φ a w→AH X.rho P ops (oN K) (fun l w=>l.size=ops.size∧StW X (held.at l) Φs w) fuel listed a w
theorem C9m {id:Nat} {ops:Array Oper} (m:Nat) (held:Y9) (Φs:List Pers) (hm:P.follows .mixedOrders=true) (hz:ops.size=m) (hb:(A1w ops&&Region.noSelect ops)=true) (hL:(held.at (Array.replicate m false)).Sublist L) (hΦ:A2 Φ Φs)
  (h:JH P n X ops m (Array.replicate m false) (Q .normal) held Φs E L Φ):J P n X (.region id ops true) Q E L Φ:=fun a w hs=>by
 simp only [Bool.and_eq_true] at hb
 refine Code.wpIn_mono (Q:=oN (Q .normal)) (fun e a w q=>by cases e<;>first|exact q|exact q.elim) ?_
 refine wpIn_region_any hm (C7u (S:=fun l w=>l.size=ops.size∧StW X (held.at l) Φs w) _ _ _ _ ?_)
 subst hz
 exact h.go hb.1 hb.2 (by simp) hL hΦ a _ ⟨hs.size,hs.defers,hs.has,hs.world.drawn _⟩
def A6n (ops:Array Oper) (held:Y9) (listed:Array Bool) (i:Nat):Bool:=Region.free .any ops listed i&&(Region.ready .any ops listed).contains i&&(held.all (fun p=>!(p.1 == i)))&&(List.range ops.size).all fun e=>!(B7i ops i e)||!(listed.getD e false)
theorem D1k {ops:Array Oper} {i e:Nat} (h:B7i ops i e=true):e<ops.size:=by
 unfold B7i at h
 split at h
 ·rename_i o ho;exact (Array.getElem?_eq_some_iff.1 ho).1
 ·cases h
theorem C3l {ops:Array Oper} {fuel:Nat} {listed:Array Bool} {held:Y9} (i:Nat) {o:Oper} {v:Value} {Ls:Own} (ho:ops[i]?=some o) (hd:X5 n o.dst=true) (ht:A6n ops held listed i=true) (hLs:held.of ops i=Ls)
  (hy:∀ a,Has a E→YieldsIf P ops (StW X Ls Φs) o v a) (h:JH P n X ops fuel (listed.setIfInBounds i true) K held Φs (Env.put E o.dst v) L Φ):JH P n X ops (fuel+1) listed K held Φs E L Φ :=
 ⟨fun h1 h2 hsz hL hΦ a w hs=>by
  simp only [A6n,Bool.and_eq_true] at ht
  obtain ⟨⟨⟨t1,t2⟩,t3⟩,t4⟩:=ht
  have hlate:∀ e,B7i ops i e=true→listed.getD e false=false:=fun e he=>by
   have:=List.all_eq_true.1 t4 e (List.mem_range.2 (D1k he))
   rw [he] at this;simpa using this
  refine C8s (Y:=StW X Ls Φs) h1 ho (Region.noSelect_spec h2) (fun c a w hq=>hq) (fun l w=>by rw [Y9.at_set t3];simp) (fun l hl w hw=>?_) fuel listed a w (Region.free_spec ho t1) hlate (by simpa using t2) (hy a hs.has) ⟨hsz,(hs.world.sub hL).foll hΦ⟩ (h.go h1 h2 (by simpa using hsz) (by rw [Y9.at_set t3];exact hL) hΦ _ w (hs.put hd v hs.world))
  exact hw.2.sub (hLs▸Y9.of_at (Nat.le_of_eq hw.1) hl)⟩
theorem D1u {ops:Array Oper} {fuel:Nat} {listed:Array Bool} {held:Y9} (i:Nat) {o:Oper} (ho:ops[i]?=some o) (hg:A6h ops o E=some false) (hd:X5 n o.dst=true) (ht:A6n ops held listed i=true)
  (h:JH P n X ops fuel (listed.setIfInBounds i true) K held Φs (Env.put E o.dst undef) L Φ):JH P n X ops (fuel+1) listed K held Φs E L Φ :=
 C3l i ho hd ht rfl (fun a ha=>.inr ⟨X7 ha hg,rfl⟩) h
theorem C5z {ops:Array Oper} {fuel:Nat} {listed:Array Bool} {held:Y9} (i:Nat) {o:Oper} {v:Value} (Ls:Own) (ho:ops[i]?=some o) (hg:A6h ops o E=some true) (hd:X5 n o.dst=true) (ht:A6n ops held listed i=true) (hLs:held.of ops i=Ls)
  (hy:I9 P X o E Ls Φs v) (h:JH P n X ops fuel (listed.setIfInBounds i true) K held Φs (Env.put E o.dst v) L Φ):JH P n X ops (fuel+1) listed K held Φs E L Φ :=
 C3l i ho hd ht hLs (fun a ha=>.inl ⟨X7 ha hg,fun w hw=>hy a w ha hw⟩) h
theorem C8t {ops:Array Oper} {fuel:Nat} {listed:Array Bool} {held:Y9} (i:Nat) {o:Oper} {α:Type} {val:α→Value} {L':α→Own} {Φ':α→List Pers} (ho:ops[i]?=some o) (hg:A6h ops o E=some true) (hd:X5 n o.dst=true)
  (ht:Tri P n X o E L Φ α val L' Φ') (hL':∀ x,(held.at (listed.setIfInBounds i true)).Sublist (L' x)) (hΦ':∀ x,A2 (Φ' x) Φs) (h:∀ x,JH P n X ops fuel (listed.setIfInBounds i true) K held Φs (Env.put E o.dst (val x)) (L' x) (Φ' x)) :
  ∀ a w,St n X E L Φ a w→A1w ops=true→Region.noSelect ops=true→listed.size=ops.size→wpOpIn (FW X.rho) 0 P ops (oN K) i (fun a' w'=>((listed.setIfInBounds i true).size=ops.size∧StW X (held.at (listed.setIfInBounds i true)) Φs w')∧AH X.rho P ops (oN K) (fun l w=>l.size=ops.size∧StW X (held.at l) Φs w) fuel (listed.setIfInBounds i true) a' w') a w:=fun a w hs h1 h2 hsz=>by
 unfold wpOpIn
 simp only [ho]
 rw [if_pos (X7 hs.has hg)]
 exact ht a w _ _ hs fun x w' hw'=>⟨⟨by simpa using hsz,(hw'.sub (hL' x)).foll (hΦ' x)⟩,(h x).go h1 h2 (by simpa using hsz) (hL' x) (hΦ' x) _ _ (hs.put hd _ hw')⟩
theorem D3n {ops:Array Oper} {fuel:Nat} {listed:Array Bool} {held:Y9} (i:Nat) {o:Oper} {α:Type} {val:α→Value} {L':α→Own} {Φ':α→List Pers} (ho:ops[i]?=some o) (hg:A6h ops o E=some true) (hd:X5 n o.dst=true) (hr:Region.ready .any ops listed=[i])
  (ht:Tri P n X o E L Φ α val L' Φ') (hL':∀ x,(held.at (listed.setIfInBounds i true)).Sublist (L' x)) (hΦ':∀ x,A2 (Φ' x) Φs) (h:∀ x,JH P n X ops fuel (listed.setIfInBounds i true) K held Φs (Env.put E o.dst (val x)) (L' x) (Φ' x)):JH P n X ops (fuel+1) listed K held Φs E L Φ :=
 ⟨fun h1 h2 hsz hL hΦ a w hs=>by
  refine ⟨fun h0=>(by rw [hr] at h0;cases h0),fun j hj=>?_⟩
  rw [hr] at hj
  obtain rfl:j=i:=by simpa using hj
  exact C8t j ho hg hd ht hL' hΦ' h a w hs h1 h2 hsz⟩
theorem C6k {ops:Array Oper} {fuel:Nat} {listed:Array Bool} {held:Y9} (i k:Nat) (hr:Region.ready .any ops listed=[i,k])
  (g1:∀ a w,St n X E L Φ a w→A1w ops=true→Region.noSelect ops=true→listed.size=ops.size→wpOpIn (FW X.rho) 0 P ops (oN K) i (fun a' w'=>((listed.setIfInBounds i true).size=ops.size∧StW X (held.at (listed.setIfInBounds i true)) Φs w')∧AH X.rho P ops (oN K) (fun l w=>l.size=ops.size∧StW X (held.at l) Φs w) fuel (listed.setIfInBounds i true) a' w') a w)
  (g2:∀ a w,St n X E L Φ a w→A1w ops=true→Region.noSelect ops=true→listed.size=ops.size→wpOpIn (FW X.rho) 0 P ops (oN K) k (fun a' w'=>((listed.setIfInBounds k true).size=ops.size∧StW X (held.at (listed.setIfInBounds k true)) Φs w')∧AH X.rho P ops (oN K) (fun l w=>l.size=ops.size∧StW X (held.at l) Φs w) fuel (listed.setIfInBounds k true) a' w') a w):JH P n X ops (fuel+1) listed K held Φs E L Φ :=
 ⟨fun h1 h2 hsz hL hΦ a w hs=>by
  refine ⟨fun h0=>(by rw [hr] at h0;cases h0),fun j hj=>?_⟩
  rw [hr] at hj
  simp only [List.mem_cons,List.not_mem_nil,or_false] at hj
  rcases hj with rfl | rfl
  ·exact g1 a w hs h1 h2 hsz
  ·exact g2 a w hs h1 h2 hsz⟩
theorem B3c {ops:Array Oper} {fuel:Nat} {listed:Array Bool} {held:Y9} (hr:Region.ready .any ops listed=[]) (h:JQ n X K E L Φ):JH P n X ops fuel listed K held Φs E L Φ :=
 ⟨fun _ _ _ _ _ a w hs=>by
  cases fuel with
  | zero=>exact ⟨hr,h a w hs⟩
  | succ f=>exact ⟨fun _=>h a w hs,fun i hi=>by rw [hr] at hi;cases hi⟩⟩
theorem D4i {ops:Array Oper} {fuel:Nat} {listed:Array Bool} {held:Y9} (hE:∀ a,Has a E→Has a E') (h:JH P n X ops fuel listed K held Φs E' L Φ):JH P n X ops fuel listed K held Φs E L Φ :=
 ⟨fun h1 h2 hsz hL hΦ a w hs=>h.go h1 h2 hsz hL hΦ a w ⟨hs.size,hs.defers,hE a hs.has,hs.world⟩⟩
theorem C3q {ops:Array Oper} {fuel:Nat} {listed:Array Bool} {held:Y9} (t:Nat) (g:Bool) (ht:E.lookup t=some (.bool g)) (h1:g=true→JH P n X ops fuel listed K held Φs ((t,.bool true)::E) L Φ) (h2:g=false→JH P n X ops fuel listed K held Φs ((t,.bool false)::E) L Φ):JH P n X ops fuel listed K held Φs E L Φ:=by
 refine ⟨fun a1 a2 a3 hL hΦ a w hs=>?_⟩
 cases hg:g with
 | true=>exact (h1 hg).go a1 a2 a3 hL hΦ a w ⟨hs.size,hs.defers,hs.has.lit ht hg,hs.world⟩
 | false=>exact (h2 hg).go a1 a2 a3 hL hΦ a w ⟨hs.size,hs.defers,hs.has.lit ht hg,hs.world⟩
def A6k (P:Program) (n:Nat) (ops:Array Oper) (held:Y9):List Nat→Array Bool→Env→Option (Array Bool×Env)
 | [],listed,E=>some (listed,E)
 | i::is,listed,E=>match ops[i]? with
  | some o=>if A6n ops held listed i then match A5y P n ops o E with
    | some E'=>A6k P n ops held is (listed.setIfInBounds i true) E'
    | none=>none
   else none
  | none=>none
theorem C9y {ops:Array Oper} {held:Y9}:∀ (is:List Nat) {fuel:Nat} {listed listed':Array Bool} {E R:Env},A6k P n ops held is listed E=some (listed',R)→JH P n X ops fuel listed' K held Φs R L Φ→JH P n X ops (is.length+fuel) listed K held Φs E L Φ
 | [],fuel,listed,listed',E,R,h,k=>by
  simp only [A6k,Option.some.injEq,Prod.mk.injEq] at h
  obtain ⟨rfl,rfl⟩:=h
  simpa using k
 | i::is,fuel,listed,listed',E,R,h,k=>by
  unfold A6k at h
  rw [List.length_cons,Nat.add_right_comm]
  split at h
  ·rename_i o ho
   split at h
   ·rename_i hc
    split at h
    ·rename_i E1 h1
     have k':=C9y is h k
     unfold A5y at h1
     split at h1
     ·rename_i hr hd
      split at h1
      ·rename_i v hv
       simp only [Option.some.injEq] at h1;subst h1
       exact C5z i _ ho hr hd hc rfl (fun a w ha _=>B7k hv a w ha) k'
      ·cases h1
     ·rename_i hr hd
      simp only [Option.some.injEq] at h1;subst h1
      exact D1u i ho hr hd hc k'
     ·cases h1
    ·cases h
   ·cases h
  ·cases h
def C1e (ops:Array Oper) (E new:Env):List Nat→Bool
 | []=>true
 | i::is=>(match (ops[i]?).bind (·.dst) with
  | some d=>A8n new d||!A8n E d
  | none=>true)&&C1e ops E new is
theorem B4s {ops:Array Oper} {held:Y9} {new:Env} {t:Nat} {v:Value} (E0:Env) (h0:E0.lookup t=some v) (hn:new.lookup t=none):∀ (is:List Nat) {l l':Array Bool} {E R:Env},C1e ops E0 new is=true→A6k P n ops held is l E=some (l',R)→E.lookup t=some v→R.lookup t=some v
 | [],l,l',E,R,_,h,he=>by simp only [A6k,Option.some.injEq,Prod.mk.injEq] at h;obtain ⟨_,rfl⟩:=h;exact he
 | i::is,l,l',E,R,hk,h,he=>by
  unfold A6k at h
  unfold C1e at hk
  simp only [Bool.and_eq_true] at hk
  split at h
  ·rename_i o ho
   split at h
   ·split at h
    ·rename_i E1 h1
     refine B4s E0 h0 hn is hk.2 h ?_
     have hd:o.dst≠some t:=by
      intro hd
      have:=hk.1
      simp only [ho,Option.bind_some,hd,A8n,hn,h0] at this
      simp at this
     have put:∀ u,(Env.put E o.dst u).lookup t=some v:=by
      intro u
      cases hdst:o.dst with
      | none=>exact he
      | some d =>
       have:(t == d)=false:=by simp;intro e;exact hd (by rw [hdst,e])
       simp only [Env.put,List.lookup,this];exact he
     unfold A5y at h1
     split at h1
     ·split at h1
      ·simp only [Option.some.injEq] at h1;subst h1;exact put _
      ·cases h1
     ·simp only [Option.some.injEq] at h1;subst h1;exact put _
     ·cases h1
    ·cases h
   ·cases h
  ·cases h
def C7o (P:Program) (n:Nat) (ops:Array Oper) (held:Y9) (is:List Nat) (listed:Array Bool) (E new:Env):Option (Array Bool×Env) :=
 if C1e ops E new is then match A6k P n ops held is listed E with
  | some (l,R)=>match B1s R new with
   | some R'=>some (l,R')
   | none=>none
  | none=>none
 else none
theorem D6u {ops:Array Oper} {held:Y9} (is:List Nat) (fuel:Nat) {listed:Array Bool} (listed':Array Bool) (new:Env) (h:C7o P n ops held is listed E new=some (listed',new)) (g:JH P n X ops fuel listed' K held Φs (new++E) L Φ):JH P n X ops (is.length+fuel) listed K held Φs E L Φ:=by
 unfold C7o at h
 split at h
 ·rename_i hk
  split at h
  ·rename_i l R hR
   split at h
   ·rename_i R' hkeep
    simp only [Option.some.injEq,Prod.mk.injEq] at h
    obtain ⟨rfl,rfl⟩:=h
    refine C9y is hR (D4i (fun a ha t v e=>?_) g)
    rw [A6v] at e
    split at e
    ·rename_i u hu
     exact (ha.weaken (I2 (B0m hkeep))) t v (by rw [hu];exact e)
    ·rename_i hu
     exact ha t v (B4s E e hu is hk hR e)
   ·cases h
  ·cases h
 ·cases h
theorem D5v {ops:Array Oper} {fuel:Nat} {listed:Array Bool} {held:Y9} (i:Nat) {o:Oper} {v:Value} (Ls:Own) (listed':Array Bool) (ho:ops[i]?=some o) (hg:A6h ops o E=some true) (hd:X5 n o.dst=true) (hm:A6n ops held listed i=true) (hLs:held.of ops i=Ls) (hl:listed.setIfInBounds i true=listed')
  (hy:I9 P X o E Ls Φs v) (h:JH P n X ops fuel listed' K held Φs (Env.put E o.dst v) L Φ):JH P n X ops (fuel+1) listed K held Φs E L Φ:=C5z i Ls ho hg hd hm hLs hy (hl▸h)
theorem hone {ops:Array Oper} {fuel:Nat} {listed:Array Bool} {held:Y9} (i:Nat) {o:Oper} {α:Type} {val:α→Value} {L':α→Own} {Φ':α→List Pers} (Lh:Own) (listed':Array Bool) (ho:ops[i]?=some o) (hg:A6h ops o E=some true) (hd:X5 n o.dst=true) (hr:Region.ready .any ops listed=[i])
  (hl:listed.setIfInBounds i true=listed') (hh:held.at listed'=Lh) (ht:Tri P n X o E L Φ α val L' Φ') (hL':∀ x,Lh.Sublist (L' x)) (hΦ':∀ x,A2 (Φ' x) Φs) (h:∀ x,JH P n X ops fuel listed' K held Φs (Env.put E o.dst (val x)) (L' x) (Φ' x)):JH P n X ops (fuel+1) listed K held Φs E L Φ:=by
 subst hl hh
 exact D3n i ho hg hd hr ht hL' hΦ' h
theorem sh {id:Nat} {ops:Array Oper} {y:Code} (m:Nat) (held:Y9) (Φs:List Pers) (Lh:Own) (l0:Array Bool) (hm:P.follows .mixedOrders=true) (hz:ops.size=m) (hb:(A1w ops&&Region.noSelect ops)=true) (hl:Array.replicate m false=l0) (hh:held.at l0=Lh) (hL:Lh.Sublist L) (hΦ:A2 Φ Φs)
  (h:JH P n X ops m l0 (fun a w=>y.wpIn (FW X.rho) 0 P Q a w) held Φs E L Φ):J P n X (.seq (.region id ops true) y) Q E L Φ:=by
 subst hl hh
 exact A3 (C9m m held Φs hm hz hb hL hΦ h)
theorem sh' {id:Nat} {ops:Array Oper} (m:Nat) (held:Y9) (Φs:List Pers) (Lh:Own) (l0:Array Bool) (hm:P.follows .mixedOrders=true) (hz:ops.size=m) (hb:(A1w ops&&Region.noSelect ops)=true) (hl:Array.replicate m false=l0) (hh:held.at l0=Lh) (hL:Lh.Sublist L) (hΦ:A2 Φ Φs)
  (h:JH P n X ops m l0 (Q .normal) held Φs E L Φ):J P n X (.region id ops true) Q E L Φ:=by
 subst hl hh
 exact C9m m held Φs hm hz hb hL hΦ h
theorem B0r {ops:Array Oper} {fuel:Nat} {listed:Array Bool} {held:Y9} {y:Code} (hr:Region.ready .any ops listed=[]) (h:J P n X y Q E L Φ):JH P n X ops fuel listed (fun a w=>y.wpIn (FW X.rho) 0 P Q a w) held Φs E L Φ:=B3c hr h
end
end Go.Fen
set_option linter.unusedVariables false
set_option linter.unusedSimpArgs false
namespace Go.Fen
open Go Go.RowKit
set_option linter.unusedSimpArgs false
set_option linter.unusedVariables false
section
variable {P:Program} {n:Nat} {X:Cx} {K:Act→World→Prop} {Q:Exit→Act→World→Prop} {E E':Env} {L L':Own} {Φ Φ':List Pers}
theorem StW.perm {w:World} (h:StW X L Φ w) (hp:L.Perm L'):StW X L' Φ w :=
 let ⟨p,q⟩:=h;⟨p,⟨q.facts,q.sub,q.le,q.dom,⟨fun e he=>q.own.1 e (hp.symm.subset he),(hp.map Prod.fst).nodup_iff.1 q.own.2⟩,fun e he=>q.may e (hp.symm.subset he),q.kept,fun d hd=>let ⟨h1,h2,h3,h4⟩:=q.res d hd;⟨h1,h2,fun e he=>h3 e (hp.symm.subset he),h4⟩⟩⟩
theorem C2n {α:Type} (a b c:List α):(a++(b++c)).Perm (b++(a++c)):=by
 rw [← List.append_assoc,← List.append_assoc]
 exact List.perm_append_comm.append_right c
theorem StW.turn {pre L0 L1 post:Own} {w w':World} (h:StW X (pre++(L0++post)) Φ w) (hk:KeptBut (L0.map Prod.fst) w w') (h1:∀ e ∈ L1,w'.heap[e.1]?=some e.2∧(e.1 ∈ L0.map Prod.fst∨w.heap.size≤e.1)) (hn:(L1.map Prod.fst).Nodup) :
  StW X (pre++(L1++post)) Φ w':=by
 obtain ⟨p,hp⟩:=h
 have hnone:∀ b ∈ L0.map Prod.fst,p b=none:=fun b hb=>by
  obtain ⟨e,he,rfl⟩:=List.mem_map.1 hb
  exact (hp.own.1 e (List.mem_append_right _ (List.mem_append_left _ he))).2
 have hc:StW (cx w p (L0.map Prod.fst)) L1 [] w':=by
  refine ⟨p,⟨fun q hq=>(by cases hq),fun b o e=>?_,Hp.le_refl p,fun b hb=>.inl hb,⟨fun e he=>⟨(h1 e he).1,?_⟩,hn⟩,fun e he=>(h1 e he).2,hk,fun d hd=>(by cases hd)⟩⟩
  ·rw [hk.block b (Hp.lt hp.sub e) (fun hm=>by rw [hnone b hm] at e;cases e)];exact hp.sub b o e
  ·rcases (h1 e he).2 with h2 | h2
   ·exact hnone _ h2
   ·cases h3:p e.1 with
    | none=>rfl
    | some o=>have:=Hp.lt hp.sub h3;omega
 have:=StW.call (L0:=L0) (L2:=pre++post) hp (C2n _ _ _) hc
 exact (this.foll fun _ h=>by simpa using h).perm (C2n _ _ _).symm
structure VR where
 q:Option Nat
 k:Nat
 j:List Value
def va (q:Option Nat):Option Addr:=match q with | none=>none | some b=>some ⟨b,0,none⟩
def VOk (sz n:Nat) (r:VR):Prop:=match r.q with
 | none=>n=0∧r.k=0
 | some _=>n * sz+r.j.length=r.k * sz∧n≤r.k∧r.k≤maxLen
def vo {α:Type} (c:α→List Value) (T:Nat) (r:VR) (xs:List α):Own:=match r.q with
 | none=>[]
 | some b=>[bx b (xs.flatMap c++r.j) T]
abbrev vv (r:VR) (n:Nat):Value:=.slice (va r.q) n r.k
def VR.nil:VR:=⟨none,0,[]⟩
theorem VOk.nil {sz:Nat}:VOk sz 0 VR.nil:=⟨rfl,rfl⟩
theorem VOk.some {sz n:Nat} {r:VR} (h:VOk sz n r) (hn:0<n):∃ b,r.q=Option.some b:=by
 unfold VOk at h
 split at h
 ·omega
 ·rename_i b hb;exact ⟨b,hb⟩
theorem VOk.cast {sz n m:Nat} {r:VR} (h:VOk sz n r) (hn:n=m):VOk sz m r:=hn▸h
structure ApTy (P:Program) (T e sz by':Nat):Prop where
 ty:P.underlying T=some (.slice e)
 info:(P.info? e).map (fun i=>(i.size,i.bytes,i.zero.map (·.cells.size)))=some (sz,by',some sz)
 pos:Nat.blt 0 sz=true
theorem E2 {α:Type} {c:α→List Value} {sz:Nat} (hc:∀ x,(c x).length=sz):∀ xs:List α,(xs.flatMap c).length=xs.length * sz
 | []=>by simp
 | x::xs=>by rw [List.flatMap_cons,List.length_append,hc,E2 hc xs,List.length_cons,Nat.succ_mul];omega
theorem A9l {α:Type} {c:α→List Value} (hc:∀ x,(c x).all (·.oneCell')=true) (xs:List α):∀ u ∈ xs.flatMap c,u.oneCell'=true:=fun u hu=>by
 obtain ⟨x,_,h⟩:=List.mem_flatMap.1 hu
 exact List.all_eq_true.1 (hc x) u h
theorem B6l {T e sz by' ty:Nat} (hT:ApTy P T e sz by') {α:Type} {f:α→List Value} (hf:∀ x,(f x).length=sz) (hf1:∀ x,(f x).all (·.oneCell')=true) {r:VR} {xs ys:List α} {pre post:Own} {w:World} {a:Addr} {m cc:Nat} (hm:m=ys.length)
  (hw:StW X (pre++(vo f e r xs++post)) Φ w) (hq:O7 Φ (sl f (some a) ys)) (hok:VOk sz xs.length r) (hb:(xs.length+ys.length) * by'≤140737488355328) (h63:xs.length+ys.length≤maxLen) :
  ∃ r' w',(Builtin.append_ #[T,T] ty #[vv r xs.length,.slice (some a) m cc]).run P w=.ok (vv r' (xs.length+ys.length)) w'∧VOk sz (xs.length+ys.length) r'∧StW X (pre++(vo f e r' (xs++ys)++post)) Φ w':=by
 obtain ⟨i,hi,hinf⟩:=Option.map_eq_some_iff.1 hT.info
 simp only [Prod.mk.injEq] at hinf
 obtain ⟨h4,h5,h6⟩:=hinf
 obtain ⟨z,hz,h6⟩:=Option.map_eq_some_iff.1 h6
 obtain ⟨p,hp⟩:=hw
 have hcells:A2v p a (ys.flatMap f):=hq p hp.facts
 have hpos:0<sz:=by simpa [Nat.blt_eq] using hT.pos
 have hown:w.ownsRow 0 e sz (vv r xs.length) xs.length (xs.flatMap f):=by
  refine ⟨E2 hf xs,?_⟩
  unfold VOk at hok
  split at hok
  ·rename_i hq0
   refine .inl ⟨?_,hok.1⟩
   unfold vv va
   rw [hq0,hok.1,hok.2]
  ·rename_i b hq0
   refine .inr ⟨b,r.k,(xs.flatMap f++r.j).toArray,?_,Nat.zero_le _,?_,hok.2.1,hok.2.2,?_,?_⟩
   ·unfold vv va;rw [hq0]
   ·have:=hp.own.1 (bx b (xs.flatMap f++r.j) e) (List.mem_append_right _ (List.mem_append_left _ (by unfold vo;rw [hq0];simp)))
    exact this.1
   ·simp only [List.size_toArray,List.length_append,E2 hf];exact hok.1
   ·rw [← E2 hf xs];simp
 obtain ⟨v',w',hrun,hown',hg,hnil,hlies⟩:=run_append_own_at (P:=P) w 0 T ty e i z sz by' hT.ty hi hz h4 h5 h6 hpos (vv r xs.length) xs.length (xs.flatMap f) hown a m cc (ys.flatMap f)
  (by rw [E2 hf,hm]) (fun j u hj=>hcells.cell hp.sub hj) (A9l hf1 ys) (by rw [hm];exact h63) (by rw [hm];exact hb) (Nat.zero_le _)
 rw [hm] at hown' hnil
 have hkeys:(vo f e r xs).map Prod.fst=r.q.toList:=by unfold vo;split<;>simp_all
 have hblk:(vv r xs.length).ownBlock=r.q:=by unfold vv va Value.ownBlock;cases r.q<;>rfl
 have hk:KeptBut ((vo f e r xs).map Prod.fst) w w':=⟨hg.os,hg.tape,hg.output,hg.size,fun k hk hm'=>hg.block k hk (fun e'=>hm' (by rw [hkeys];rw [hblk] at e';rw [← e'];simp))⟩
 obtain ⟨hlen,hor⟩:=hown'
 rcases hor with ⟨rfl,hn0⟩ | ⟨g,cap,cur,rfl,_,hheap,hle,hmax,hsz,htake⟩
 ·refine ⟨VR.nil,w',?_,?_,?_⟩
  ·rw [hrun,hn0];rfl
  ·rw [hn0];exact VOk.nil
  ·exact StW.turn ⟨p,hp⟩ hk (by intro e he;cases he) List.nodup_nil
 ·refine ⟨⟨some g,cap,cur.toList.drop ((xs.length+ys.length) * sz)⟩,w',?_,?_,?_⟩
  ·rw [hrun];rfl
  ·refine ⟨?_,hle,hmax⟩
   have:(xs.length+ys.length) * sz≤cap * sz:=Nat.mul_le_mul_right _ hle
   simp only [List.length_drop,Array.length_toList,hsz];omega
  ·refine StW.turn ⟨p,hp⟩ hk (L1:=[bx g ((xs++ys).flatMap f++cur.toList.drop ((xs.length+ys.length) * sz)) e]) ?_ (by simp)
   intro e' he
   obtain rfl:e'=_:=by simpa using he
   refine ⟨?_,?_⟩
   ·simp only
    rw [hheap,← List.append_assoc,← htake,List.take_append_drop]
   ·rcases hlies with h1 | h1
    ·refine .inl ?_
     rw [hkeys]
     rw [hblk] at h1
     rw [← h1];simp [Value.ownBlock]
    ·simp [Value.ownBlock] at h1
     exact .inr (by simp only;omega)
theorem C5b {o:Oper} {c:Call} {T e sz by':Nat} {x y:Operand} {α:Type} {f:α→List Value} {r:VR} {xs ys:List α} {a:Addr} {m cc:Nat} {pre post:Own} (hT:ApTy P T e sz by') (hf:∀ x,(f x).length=sz) (hf1:∀ x,(f x).all (·.oneCell')=true)
  (ho:o.op=.call c) (hc:c.callee=.builtin .append) (hca:c.args=#[x,y]) (hct:c.argTypes=#[T,T]) (hx:ev E x=some (vv r xs.length)) (hy:ev E y=some (.slice (some a) m cc)) (hm:m=ys.length) (hL:L=pre++(vo f e r xs++post))
  (hq:O7 Φ (sl f (some a) ys)) (hok:VOk sz xs.length r) (hb:(xs.length+ys.length) * by'≤140737488355328) (h63:xs.length+ys.length≤9223372036854775807) :
  Tri P n X o E L Φ {r':VR // VOk sz (xs.length+ys.length) r'} (fun r'=>vv r'.1 (xs.length+ys.length)) (fun r'=>pre++(vo f e r'.1 (xs++ys)++post)) (fun _=>Φ):=by
 intro ac w K Q hs hk
 have hw:=hs.world
 rw [hL] at hw
 obtain ⟨r',w',hrun,hok',hw'⟩:=B6l (ty:=o.type) hT hf hf1 (cc:=cc) hm hw hq hok hb h63
 refine A3b (by rw [ho];rfl) ?_
 unfold Oper.wp
 rw [show (execOp ac.eval o).run P w=.ok (.value (vv r' (xs.length+ys.length))) w' by
  simp [execOp,ho,resolve,hc,hca,hct,C0 hs.has hx,C0 hs.has hy,invoke,builtin,hrun]]
 exact hk ⟨r',hok'⟩ w' hw'
theorem C4g {T e:TypeId} {q:Option Addr} {len k:Nat} (hT:P.underlying T=some (.slice e)) (d:Nat) (w:World):(Op.equalIn (d+1) T (.slice q len k) (.slice none 0 0)).run P w=.ok q.isNone w:=by
 unfold Op.equalIn
 rw [Sem.run_bind,run_underlying hT]
 cases q<;>rfl
theorem D0n {o:Oper} {T U e:TypeId} {x y:Operand} {q:Option Addr} {len k:Nat} (hT:P.underlying T=some (.slice e)) (ho:o.op=.binOp .eql T x y U) (hx:ev E x=some (.slice q len k)) (hy:ev E y=some (.slice none 0 0)):I9 P X o E L Φ (.bool q.isNone) :=
 .of_run fun ac w ha _=>by
  simp [execOp,ho,C0 ha hx,C0 ha hy,eqGuard,binOp,Op.equal,Op.maxDepth,C4g hT 9999]
theorem S6 {o:Oper} {T e sz b:Nat} {x y:Operand} {len cap:Nat} {m:Int} (hT:SlTy P T e sz) (ho:o.op=.indexAddr T x y)
  (hx:ev E x=some (.slice (some ⟨b,0,none⟩) len cap)) (hy:ev E y=some (.int .i64 m)) (k:Nat) (hk:m=k) (hl:k<len):I9 P X o E L Φ (.pointer (some ⟨b,k * sz,none⟩)):=by
 have:=C9i (X:=X) (L:=L) (Φ:=Φ) hT ho hx hy k hk hl
 rwa [U3,Nat.zero_add] at this
theorem D0c {α:Type} {c:α→List Value} {sz:Nat} (hc:∀ x,(c x).length=sz) {xs:List α} {j:List Value} {k:Nat} {v:α} (hv:xs[k]?=some v) {f:Nat} {u:Value} (hu:(c v)[f]?=some u):(xs.flatMap c++j)[k * sz+f]?=some u:=by
 have:=A6u hc hv f u hu
 rw [List.getElem?_append_left (List.getElem?_eq_some_iff.1 this).1];exact this
theorem V2 {o:Oper} {T b off TT sz:Nat} {x:Operand} {α:Type} {c:α→List Value} {xs:List α} {j:List Value} {v:α} {u:Value} (hT:Ty P T 1 false) (hc:∀ x,(c x).length=sz) (ho:o.op=.load T x) (hx:ev E x=some (.pointer (some ⟨b,off,none⟩))) (i:Nat)
  (hL:L[i]?=some (bx b (xs.flatMap c++j) TT)) (k f:Nat) (hoff:off=k * sz+f) (hv:xs[k]?=some v) (hu:(c v)[f]?=some u):I9 P X o E L Φ u :=
 D4 hT ho hx i hL (by rw [hoff];exact D0c hc hv hu)
theorem B8m (A R us:List Value) (f:Nat) (h:f+us.length≤A.length):X3 (A++R) us f=X3 A us f++R:=by
 unfold X3
 rw [List.take_append_of_le_length (by omega),List.drop_append_of_le_length h]
 simp [List.append_assoc]
theorem B4u {α:Type} {c:α→List Value} {sz:Nat} (hc:∀ x,(c x).length=sz):∀ {xs:List α} {k:Nat} {v v':α} {us:List Value} {f:Nat},xs[k]?=some v→f+us.length≤sz→X3 (c v) us f=c v'→∀ j:List Value,
  X3 (xs.flatMap c++j) us (k * sz+f)=(xs.set k v').flatMap c++j
 | [],k,v,v',us,f,h,_,_,_=>by cases h
 | x::xs,0,v,v',us,f,h,hl,hp,j=>by
  simp only [List.getElem?_cons_zero,Option.some.injEq] at h;subst h
  have hcx:=hc x
  rw [List.set_cons_zero,List.flatMap_cons,List.flatMap_cons,← hp,Nat.zero_mul,Nat.zero_add,List.append_assoc,List.append_assoc]
  exact B8m _ _ _ _ (by omega)
 | x::xs,k+1,v,v',us,f,h,hl,hp,j=>by
  simp only [List.getElem?_cons_succ] at h
  have ih:=B4u hc h hl hp j
  have hcx:=hc x
  rw [List.set_cons_succ,List.flatMap_cons,List.flatMap_cons,List.append_assoc,List.append_assoc,← ih]
  unfold X3
  have e1:(k+1) * sz+f=sz+(k * sz+f):=by rw [Nat.succ_mul];omega
  rw [e1,List.take_append,List.drop_append,hcx,List.take_of_length_le (by omega),List.drop_eq_nil_of_le (by omega)]
  rw [show sz+(k * sz+f) - sz=k * sz+f by omega,show sz+(k * sz+f)+us.length - sz=k * sz+f+us.length by omega]
  simp [List.append_assoc]
theorem V1 {o:Oper} {T m b off TT sz:Nat} {agg:Bool} {x y:Operand} {v:Value} {α:Type} {c:α→List Value} {xs:List α} {j us:List Value} {u u':α} (hT:Ty P T m agg) (hc:∀ x,(c x).length=sz) (ho:o.op=.store T x y) (hx:ev E x=some (.pointer (some ⟨b,off,none⟩))) (hy:ev E y=some v)
  (i:Nat) (hL:L[i]?=some (bx b (xs.flatMap c++j) TT)) (hv:v.cells=us.toArray) (hn:us.length=m) (hb:us.all (·.oneCell')=true) (k f:Nat) (hoff:off=k * sz+f) (hu:xs[k]?=some u) (hp:X3 (c u) us f=c u') (hle:Nat.ble (f+m) sz=true) :
  Tri P n X o E L Φ Unit (fun _=>undef) (fun _=>L.set i (bx b ((xs.set k u').flatMap c++j) TT)) (fun _=>Φ):=by
 have hle':f+m≤sz:=Nat.le_of_ble_eq_true hle
 refine N3 hT ho hx hy i hL hv hn hb (by rw [hoff];exact B4u hc hu (by omega) hp j) ?_
 have hk:=(List.getElem?_eq_some_iff.1 hu).1
 have h2:(k+1) * sz≤xs.length * sz:=Nat.mul_le_mul_right _ hk
 rw [Nat.succ_mul] at h2
 refine Nat.ble_eq_true_of_le ?_
 rw [List.length_append,E2 hc];omega
theorem C0u {α:Type} {c:α→List Value} {q:Option Addr} {xs:List α} (h:O7 Φ (sl c q xs)) (k:Nat):O7 Φ (sl c q (xs.take k)):=fun p hp=>by
 have:=h p hp
 cases q with
 | none=>simp only [sl] at this ⊢;rw [this];simp
 | some a =>
  obtain hn | ⟨h0,cc,T,fr,h1,h2⟩:=this
  ·exact .inl (List.flatMap_eq_nil_iff.2 fun x hx=>List.flatMap_eq_nil_iff.1 hn x (List.mem_of_mem_take hx))
  refine .inr ⟨h0,cc,T,fr,h1,fun j v hj=>h2 j v ?_⟩
  have e:xs.flatMap c=(xs.take k).flatMap c++(xs.drop k).flatMap c:=by rw [← List.flatMap_append,List.take_append_drop]
  rw [e,List.getElem?_append_left (List.getElem?_eq_some_iff.1 hj).1];exact hj
end
end Go.Fen
set_option linter.unusedVariables false
set_option linter.unusedSimpArgs false
namespace Go.Fen
open Go Go.RowKit
set_option linter.unusedSimpArgs false
set_option linter.unusedVariables false
section
variable {P:Program} {n:Nat} {X:Cx} {K:Act→World→Prop} {Q:Exit→Act→World→Prop} {E E':Env} {L L':Own} {Φ Φ':List Pers}
theorem mc (cs:List Own) (m:List Bool) (h1:L=cs.flatten) (h2:(C7r m cs).flatten=L'):L'.Sublist L:=by
 subst h1 h2;exact B4m (B2h m cs)
theorem H3 (cs:List Own) (is:List Nat) (m:Nat) (hm:cs.length=m) (h:is.Perm (List.range m)) (h1:L=cs.flatten) (cs2:List Own) (h2:is.map (cs.getD · [])=cs2) (h3:cs2.flatten=L'):L.Perm L':=by
 subst hm h1 h2 h3
 have e:cs=(List.range cs.length).map (cs.getD · []):=by
  apply List.ext_getElem?
  intro i
  rw [List.getElem?_map]
  by_cases hi:i<cs.length
  ·rw [List.getElem?_range hi];simp [hi,List.getD]
  ·rw [List.getElem?_eq_none (Nat.le_of_not_lt hi),List.getElem?_eq_none (by simpa using Nat.le_of_not_lt hi)];rfl
 have:=((h.map (cs.getD · [])).symm).flatten
 rw [← e] at this
 exact this
end
def A9t (P:Program) (l:Nat) (v:Value) (L:Own) (Φ:List Pers) (post:Bool→Own→List Pers→Prop):Prop :=
 ∀ (w:World) (h:Hp),(∀ q ∈ Φ,q.p h)→h.sub w→A0i L h w →
  YieldAt Fence.wide 0 P l #[v] w fun e w'=>∃ b L' Φ',e=.returned (.bool b)∧post b L' Φ'∧StW (cx w h (L.map Prod.fst)) L' Φ' w'
def C1y (P:Program) (gf:FuncId) (lb:List Value) (Φ0:List Pers) {β:Type} (enc:β→Value) (xs:List β):Prop :=
 HasBody P gf∧∀ (l:Nat) (w:World) (h:Hp) (I:List β→Own→List Pers→Prop) (Ix:Own→List Pers→Prop) (L:Own) (Φ:List Pers),I xs L Φ→(∀ q ∈ Φ0,q.p h)→(∀ q ∈ Φ,q.p h)→h.sub w→A0i L h w →
  (∀ x rest L Φ,I (x::rest) L Φ→A9t P l (enc x) L Φ fun b L' Φ'=>if b then I rest L' Φ' else Ix L' Φ') →
  Calls P gf (#[.func (.yield l) #[] #[]]++lb.toArray) w fun e w'=>(∃ v,e=.returned v)∧∃ L' Φ',(I [] L' Φ'∨Ix L' Φ')∧StW (cx w h (L.map Prod.fst)) L' Φ' w'
section
variable {P:Program} {n:Nat} {X:Cx} {K:Act→World→Prop} {Q:Exit→Act→World→Prop} {E E':Env} {L L':Own} {Φ Φ':List Pers}
def C5u (P:Program) (X:Cx) (fn:Func) (R:Own→List Pers→Prop):Exit→Act→World→Prop :=
 bodyPostM (FW none) 0 P fn fun e w'=>(∃ v,e=.returned v)∧∃ L' Φ',R L' Φ'∧StW X L' Φ' w'
theorem B9n {X':Cx} {a:Act} {w:World} {fn:Func} {R:Own→List Pers→Prop} {v:Value} (hX:X'=X.wd X'.D) (hX0:X=X.wd []) (hrho:X.rho=none) (hnd:(X'.D.map Prod.fst).Nodup∧∀ d ∈ X'.D,d.2=.deferred (some [])) (hr:Res P n X fn E L Φ v) (hR:R L' Φ') (hL:L'.Sublist L) (hΦ:A2 Φ Φ')
  (hs:St n X' E L Φ a w):LeavesInM (FW none) 0 P fn a.tmps (fun e w'=>(∃ v,e=.returned v)∧∃ L' Φ',R L' Φ'∧StW X L' Φ' w') a.defers .returning w:=by
 have hm:X'.marks=X'.D.map (B5q ·.1):=by rw [hX];unfold Cx.marks Cx.wd;simp only [hrho]
 rw [hs.defers,hm]
 refine A5k (X:=X) (L:=L) (Φ:=Φ) X'.D hnd.1 hnd.2 w (hX▸hs.world) fun w' hw'=>⟨v,?_,⟨v,rfl⟩,L',Φ',hR,?_⟩
 ·rw [hX0] at hr
  exact hr {a with defers:=[]} w' ⟨hs.size,by unfold Cx.marks Cx.wd;simp only [hrho];rfl,hs.has,hw'⟩
 ·rw [hX0];exact (hw'.sub hL).foll hΦ
theorem B4f {X':Cx} {fn:Func} {R:Own→List Pers→Prop} {v:Value} (hX:X'=X.wd X'.D) (hX0:X.rho=none∧X.D=[]) (hnd:(X'.D.map Prod.fst).Nodup∧∀ d ∈ X'.D,d.2=.deferred (some [])) (hr:Res P n X fn E L Φ v) (hR:R L' Φ') (hL:L'.Sublist L) (hΦ:A2 Φ Φ') :
  JQ n X' (C5u P X fn R .ret) E L Φ:=fun a w hs=>B9n hX (by obtain ⟨w0,h0,M,r,D⟩:=X;obtain ⟨h1,h2⟩:=hX0;simp only at h1 h2;subst h1 h2;rfl) hX0.1 hnd hr hR hL hΦ hs
theorem A5h {X':Cx} {fn:Func} {R:Own→List Pers→Prop} {v:Value} (hX:X'=X.wd X'.D) (hX0:X.rho=none∧X.D=[]) (hnd:(X'.D.map Prod.fst).Nodup∧∀ d ∈ X'.D,d.2=.deferred (some [])) (hr:Res P n X fn E L Φ v) (hR:R L' Φ') (hL:L'.Sublist L) (hΦ:A2 Φ Φ') :
  JQ n X' (C5u P X fn R .normal) E L Φ:=fun a w hs=>B9n hX (by obtain ⟨w0,h0,M,r,D⟩:=X;obtain ⟨h1,h2⟩:=hX0;simp only at h1 h2;subst h1 h2;rfl) hX0.1 hnd hr hR hL hΦ hs
theorem B4c {args:List Value} {m:Nat} (hle:Nat.ble args.length m=true) {E0:Env} (hE:J0 ((List.range args.length).zip args) E0):Has {tmps:=args.toArray++Array.replicate (m - args.toArray.size) undef,defers:=[]} E0:=by
 have hle':args.length≤m:=Nat.le_of_ble_eq_true hle
 have h1:Has {tmps:=args.toArray++Array.replicate (m - args.toArray.size) undef,defers:=[]} ((List.range args.length).zip args):=by
  intro t v e
  have hm:∀ (xs:List Value) (k:Nat),((List.range' k xs.length).zip xs).lookup t=some v→k≤t∧xs[t - k]?=some v:=by
   intro xs
   induction xs with
   | nil=>intro k hk;simp at hk
   | cons y ys ih =>
    intro k hk
    rw [List.length_cons,List.range'_succ,List.zip_cons_cons] at hk
    by_cases ht:t=k
    ·subst ht;simp [List.lookup] at hk;simp [hk]
    ·have:(t == k)=false:=by simpa using ht
     simp only [List.lookup,this] at hk
     obtain ⟨h1,h2⟩:=ih (k+1) hk
     refine ⟨by omega,?_⟩
     rw [show t - k=(t - (k+1))+1 by omega,List.getElem?_cons_succ]
     exact h2
  rw [List.range_eq_range'] at e
  obtain ⟨_,h2⟩:=hm args 0 e
  have h3:args[t]?=some v:=by simpa using h2
  have:=(List.getElem?_eq_some_iff.1 h3).1
  rw [Array.getElem?_append_left (by simpa using this)]
  simpa using h3
 exact h1.weaken (I2 hE)
theorem C7l {gf:FuncId} {fn:Func} {c:Code} {lb:List Value} {Φ0:List Pers} {β:Type} {enc:β→Value} {xs:List β}
  (hf : P.funcs[gf]? = some fn) (hb : fn.body = some c) (hnm : (fn.name == "runtime.NumGoroutine") = false) (hn : fn.ntmps = n) (hle : Nat.ble (lb.length + 1) n = true) (E0 : Nat → Env) (hE : ∀ l, J0 ((List.range (lb.length + 1)).zip (.func (.yield l) #[] #[] :: lb)) (E0 l))
  (h:∀ (X:Cx) (l:Nat) (I:List β→Own→List Pers→Prop) (Ix:Own→List Pers→Prop) (L:Own) (Φ:List Pers),X.M=L.map Prod.fst→X.rho=none→X.D=[]→I xs L Φ →
   (∀ x rest L Φ,I (x::rest) L Φ→A9t P l (enc x) L Φ fun b L' Φ'=>if b then I rest L' Φ' else Ix L' Φ')→J P n X c (C5u P X fn fun L' Φ'=>I [] L' Φ'∨Ix L' Φ') (E0 l) (L++[]) (Φ0++Φ)):C1y P gf lb Φ0 enc xs:=by
 refine ⟨⟨by simp [hf,hb,hnm]⟩,fun l w p I Ix L Φ hI hΦ0 hΦ hs ho hy=>?_⟩
 have hargs:(#[.func (.yield l) #[] #[]]++lb.toArray:Array Value)=(Value.func (.yield l) #[] #[]::lb).toArray:=by simp
 rw [hargs]
 simp only [List.append_nil] at h
 refine (callsIn_wide (n:=0)).1 (callsIn_of_wp_marks (F:=Fence.wide) hf hb trivial (h (cx w p (L.map Prod.fst)) l I Ix L Φ rfl rfl rfl hI hy _ w ⟨?_,rfl,?_,p,⟨?_,hs,Hp.le_refl p,fun b hb=>.inl hb,ho,fun e he=>.inl (List.mem_map_of_mem he),KeptBut.refl _ w,fun d hd=>(by cases hd)⟩⟩))
 ·have hle':lb.length+1≤n:=Nat.le_of_ble_eq_true hle
  simp [hn];omega
 ·rw [hn]
  exact B4c (args:=Value.func (.yield l) #[] #[]::lb) hle (hE l)
 ·intro q hq
  rcases List.mem_append.1 hq with hq | hq
  ·exact hΦ0 q hq
  ·exact hΦ q hq
theorem B0l {o:Oper} {c:Call} {fv:Operand} {l:Nat} {v:Value} {L0 L2:Own} {Φ0:List Pers} {post:Bool→Own→List Pers→Prop} (hy:A9t P l v L0 Φ0 post)
  (ho:o.op=.call c) (hc:c.callee=.value fv) (hf:ev E fv=some (.func (.yield l) #[] #[])) (hargs:c.args.toList.mapM (ev E)=some [v]) (hΦ:A2 Φ Φ0) (hL:L.Perm (L0++L2)) :
  Tri P n X o E L Φ {σ:Bool×Own×List Pers // post σ.1 σ.2.1 σ.2.2} (fun σ=>.bool σ.1.1) (fun σ=>σ.1.2.1++L2) (fun σ=>σ.1.2.2++Φ):=by
 intro a w K Q hs hk
 obtain ⟨p,hp⟩:=hs.world
 have hown:A0i (L0++L2) p w:=⟨fun e he=>hp.own.1 e (hL.symm.subset he),(hL.map Prod.fst).nodup_iff.1 hp.own.2⟩
 obtain ⟨fn,tmps,assign,body,hyr,hround⟩:=hy w p (hΦ p hp.facts) hp.sub (hown.sub (List.sublist_append_left _ _))
 have hr:(execOp a.eval o).run P w=.ok (.round l fn tmps assign body) w:=by
  simp [execOp,ho,resolve,hc,C0 hs.has hf,Deferred.ofValue,A6l hs.has hargs,invoke,hyr]
 refine ⟨fun _ _=>trivial,?_⟩
 rw [Oper.semAt_eq _ _ _ (fun c hc=>by rw [ho] at hc;cases hc),hr]
 refine ⟨A6b,?_⟩
 have hR:RoundIn (FW X.rho) 0 P l fn tmps assign body w _:=hround
 refine hR.mono fun e w' hx=>?_
 obtain ⟨b,L',Φ',rfl,hpost,hw⟩:=hx
 exact hk ⟨(b,L',Φ'),hpost⟩ w' (StW.call hp hL hw)
end
end Go.Fen
set_option linter.unusedVariables false
set_option linter.unusedSimpArgs false
namespace Go.Fen
open Go Go.RowKit
set_option linter.unusedSimpArgs false
set_option linter.unusedVariables false
section
variable {P:Program} {n:Nat} {X:Cx} {K:Act→World→Prop} {Q:Exit→Act→World→Prop} {E E':Env} {L L':Own} {Φ Φ':List Pers}
theorem StW.reput {w:World} {d:Nat} {o o':Obj} {ds:List (Nat×Obj)} (hd:d ∉ ds.map Prod.fst) (h:StW (X.wd ((d,o)::ds)) L Φ w):StW (X.wd ((d,o')::ds)) L Φ (w.putObj d o'):=by
 have h':=StW.take hd o' h
 obtain ⟨p0,hp0⟩:=h
 obtain ⟨h1,h2,h3,h4⟩:=hp0.res (d,o) (List.mem_cons_self ..)
 have hlt:=(Array.getElem?_eq_some_iff.1 h1).1
 refine ⟨p0,⟨hp0.facts,fun k u e=>?_,hp0.le,hp0.dom,⟨fun e he=>⟨?_,(hp0.own.1 e he).2⟩,hp0.own.2⟩,hp0.may,⟨hp0.kept.os,hp0.kept.tape,hp0.kept.output,?_,fun k hk hm=>?_⟩,fun d' hd'=>?_⟩⟩
 ·have:k≠d:=fun e'=>by subst e';rw [h2] at e;cases e
  rw [World.putObj_heap_other this];exact hp0.sub k u e
 ·rw [World.putObj_heap_other (h3 e he)];exact (hp0.own.1 e he).1
 ·rw [World.putObj_size];exact hp0.kept.size
 ·have:k≠d:=fun e'=>by
   subst e'
   rcases h4 with h4 | h4
   ·have:X.w0.heap.size≤k:=h4
    have:k<X.w0.heap.size:=hk
    omega
   ·exact hm h4
  rw [World.putObj_heap_other this];exact hp0.kept.block k hk hm
 ·rcases List.mem_cons.1 hd' with rfl | hd'
  ·exact ⟨World.putObj_heap_same hlt,h2,h3,h4⟩
  ·have:d'.1≠d:=fun e'=>hd (e'▸List.mem_map_of_mem hd')
   obtain ⟨g1,g2⟩:=hp0.res d' (List.mem_cons_of_mem _ hd')
   exact ⟨by rw [World.putObj_heap_other this];exact g1,g2⟩
theorem StW.unres {w:World} {w0:World} {h0:Hp} {M:List Nat} {r:Option Nat} {ds:List (Nat×Obj)} (hn:(ds.map Prod.fst).Nodup) (h:StW ⟨w0,h0,M,r,ds⟩ L Φ w):StW (cx w0 h0 M) (ds++L) Φ w:=by
 obtain ⟨p,hp⟩:=h
 refine ⟨p,⟨hp.facts,hp.sub,hp.le,hp.dom,⟨fun e he=>?_,?_⟩,fun e he=>?_,⟨hp.kept.os,hp.kept.tape,hp.kept.output,hp.kept.size,hp.kept.block⟩,fun d hd=>by cases hd⟩⟩
 ·rcases List.mem_append.1 he with he | he
  ·exact ⟨(hp.res e he).1,(hp.res e he).2.1⟩
  ·exact hp.own.1 e he
 ·rw [List.map_append,List.nodup_append]
  refine ⟨hn,hp.own.2,fun b hb c hc=>?_⟩
  obtain ⟨d,hd,rfl⟩:=List.mem_map.1 hb
  obtain ⟨e,he,rfl⟩:=List.mem_map.1 hc
  exact fun h=>(hp.res d hd).2.2.1 e he h.symm
 ·rcases List.mem_append.1 he with he | he
  ·exact (hp.res e he).2.2.2.symm
  ·exact hp.may e he
theorem StW.reserve {w:World} {d:Nat} {o:Obj} (h:StW X ((d,o)::L) Φ w):StW (X.wd ((d,o)::X.D)) L Φ w:=by
 obtain ⟨p,hp⟩:=h
 refine ⟨p,⟨hp.facts,hp.sub,hp.le,hp.dom,hp.own.sub (List.sublist_cons_self _ _),fun e he=>hp.may e (List.mem_cons_of_mem _ he),⟨hp.kept.os,hp.kept.tape,hp.kept.output,hp.kept.size,hp.kept.block⟩,fun e he=>?_⟩⟩
 rcases List.mem_cons.1 he with rfl | he
 ·have h1:=hp.own.1 (d,o) (List.mem_cons_self ..)
  refine ⟨h1.1,h1.2,fun e' he' hE=>?_,(hp.may (d,o) (List.mem_cons_self ..)).symm⟩
  have:=hp.own.2
  rw [List.map_cons,List.nodup_cons] at this
  exact this.1 (hE▸List.mem_map_of_mem he')
 ·obtain ⟨g1,g2,g3,g4⟩:=hp.res e he
  exact ⟨g1,g2,fun e' he'=>g3 e' (List.mem_cons_of_mem _ he'),g4⟩
def RP (Y:Cx) {β σ:Type} (I:List β→σ→Prop) (Jx:Code→σ→Prop) (Lk:σ→Own) (Φk:σ→List Pers) (rest:List β):Exit→Act→World→Prop
 | .normal,_,w=>∃ s,I rest s∧StW Y (Lk s) (Φk s) w
 | .ret,_,w=>∃ s,Jx .ret s∧StW Y (Lk s) (Φk s) w
 | .exit id,_,w=>∃ s,Jx (.exit id) s∧StW Y (Lk s) (Φk s) w
 | _,_,_=>False
theorem D0d {g:Operand} {p:Nat} {ps:Array Tmp} {assign body:Code} {gf:FuncId} {lb:List Value} {Φ0:List Pers} {β:Type} {enc:β→Value} {xs:List β}
  (hro:X.rho=none) (hg:ev E g=some (.func (.func gf) #[] lb.toArray)) (hit:C1y P gf lb Φ0 enc xs) (hΦ0:A2 Φ Φ0) (hps:ps=#[p]) (hpn:X5 n (some p)=true)
  {σ:Type} (I:List β→σ→Prop) (Jx:Code→σ→Prop) (Lk:σ→Own) (Φk:σ→List Pers) (s0:σ) (h0:I xs s0) (hL:(Lk s0).Sublist L) (hΦ:A2 Φ (Φk s0))
  (hround:∀ x rest s,I (x::rest) s→∀ (Y Y':Cx) (K:Act→World→Prop),Y.rho.isSome=true →
   (∀ E L Φ,J P n Y' body (RP Y' I Jx Lk Φk rest) E L Φ→JQ n Y K E L Φ)→J P n Y assign (Exit.then K (fun _ _ _=>False)) (Env.put E (some p) (enc x)) (Lk s) (Φk s))
  (hafter:∀ d s,d ∉ X.D.map Prod.fst→I [] s→JQ n (X.wd ((d,.deferred (some []))::X.D)) (Q .normal) E (Lk s) (Φk s))
  (hstop:∀ d c s,d ∉ X.D.map Prod.fst→Jx c s→J P n (X.wd ((d,.deferred (some []))::X.D)) c Q E (Lk s) (Φk s)):J P n X (.rangeFunc g ps assign body) Q E L Φ:=by
 intro a w hs
 subst hps
 rw [hro]
 refine wpIn_rangeFunc ?_
 intro fn _
 obtain ⟨rec,hrec⟩:∃ rec:LoopState→Option Code→Loop,rec=fun st pe=>{state:=st,pending:=pe,fn,tmps:=a.tmps,params:=#[p],assign,body,defers:=w.heap.size}:=⟨_,rfl⟩
 have he:=run_enterLoop_outer (P:=P) (w:=w) fn a.tmps #[p] assign body
 rw [show ({state:=.ready,pending:=none,fn:=fn,tmps:=a.tmps,params:=#[p],assign:=assign,body:=body,defers:=w.heap.size}:Loop)=rec .ready none by rw [hrec]] at he
 obtain ⟨w1,hw1⟩:∃ w1,(w.alloc (.deferred (some []))).alloc (.loop (rec .ready none))=w1:=⟨_,rfl⟩
 rw [hw1] at he
 refine ⟨w.heap.size+1,[B5q w.heap.size],w1,{target:=.fn (.func gf) lb.toArray,args:=#[.func (.yield (w.heap.size+1)) #[] #[]]},w1,gf,
  #[.func (.yield (w.heap.size+1)) #[] #[]]++lb.toArray,w1,he,?_,fun _ _=>trivial,?_,A6b,?_⟩
 ·simp only [resolve,C0 hs.has hg]
  simp [go_sem]
 ·simp [invoke,A0p hit.1]
 ·-- the caller's state,the two blocks laid
  have hst:StW X ((w.heap.size+1,.loop (rec .ready none))::(w.heap.size,.deferred (some []))::Lk s0) Φ w1:=by
   have h1:=(hs.world.sub hL).alloc (.deferred (some []))
   have h2:=h1.alloc (.loop (rec .ready none))
   rw [World.size_alloc,hw1] at h2
   exact h2
  have hdD:w.heap.size ∉ X.D.map Prod.fst:=fun hm=>by
   obtain ⟨e,he',hE⟩:=List.mem_map.1 hm
   obtain ⟨q,hq⟩:=hs.world
   have:=(Array.getElem?_eq_some_iff.1 (hq.res e he').1).1
   omega
  obtain ⟨q,hq⟩:=hst
  have hsz:w.heap.size+1<w1.heap.size:=(Array.getElem?_eq_some_iff.1 (hq.own.1 _ (List.mem_cons_self ..)).1).1
  let It:List β→Own→List Pers→Prop:=fun rem L Φ=>∃ s,I rem s∧L=(w.heap.size+1,.loop (rec .ready none))::(w.heap.size,.deferred (some []))::Lk s∧Φ=Φk s
  let Itx:Own→List Pers→Prop:=fun L Φ=>∃ c s,Jx c s∧L=(w.heap.size+1,.loop (rec .done (some c)))::(w.heap.size,.deferred (some []))::Lk s∧Φ=Φk s
  have hcall:=hit.2 (w.heap.size+1) w1 q It Itx _ (Φk s0) ⟨s0,h0,rfl,rfl⟩ (hΦ0 q hq.facts) (hΦ q hq.facts) hq.sub hq.own ?_
  ·refine A9w (hcall.mono fun e w' hx=>?_)
   obtain ⟨⟨v,rfl⟩,L',Φ',hI,hw'⟩:=hx
   have hw2:=StW.call (L0:=(w.heap.size+1,.loop (rec .ready none))::(w.heap.size,.deferred (some []))::Lk s0) (L2:=[]) hq (by simp) hw'
   rw [List.append_nil] at hw2
   have close:∀ (st:LoopState) (pe:Option Code) (s:σ),st≠.busy→L'=(w.heap.size+1,.loop (rec st pe))::(w.heap.size,.deferred (some []))::Lk s→Φ'=Φk s →
     (Instr.endLoop (w.heap.size+1)).run P w'=.ok pe (w'.putObj (w.heap.size+1) (.loop {rec st pe with state:=.exhausted})) ∧
     St n (X.wd ((w.heap.size,.deferred (some []))::X.D)) E (Lk s) (Φk s) {a with defers:=[B5q w.heap.size]++a.defers} (w'.putObj (w.heap.size+1) (.loop {rec st pe with state:=.exhausted})):=fun st pe s hst hL' hΦ'=>by
    subst hL' hΦ'
    obtain ⟨q2,hq2⟩:=hw2
    have hl:=(hq2.own.1 _ (List.mem_cons_self ..)).1
    simp only at hl
    have hrun:=run_endLoop (P:=P) hl (by rw [hrec];exact hst)
    rw [hrec] at hrun ⊢
    refine ⟨hrun,⟨hs.size,?_,hs.has,?_⟩⟩
    ·show [B5q w.heap.size]++a.defers=_
     rw [hs.defers]
     unfold Cx.marks Cx.wd
     simp only [hro];rfl
    ·have h3:StW X ((w.heap.size,.deferred (some []))::Lk s) (Φk s++Φ) (w'.putObj (w.heap.size+1) (.loop {rec st pe with state:=.exhausted})):=by
      have h4:=StW.reserve (X:=X) ⟨q2,hq2⟩
      have hnd:=hq2.own.2
      have h5:=StW.take (X:=X) (d:=(w.heap.size+1,.loop (rec st pe))) (ds:=X.D) ?_ (.loop {rec st pe with state:=.exhausted}) h4
      ·exact h5
      ·intro hm
       obtain ⟨e,he',hE⟩:=List.mem_map.1 hm
       obtain ⟨q3,hq3⟩:=hs.world
       have:=(Array.getElem?_eq_some_iff.1 (hq3.res e he').1).1
       simp only at hE;omega
     rw [hrec] at h3
     exact h3.reserve.foll fun p hp q hq=>hp q (List.mem_append_left _ hq)
   rcases hI with ⟨s,hI,hL',hΦ'⟩ | ⟨c,s,hI,hL',hΦ'⟩
   ·obtain ⟨hrun,hs'⟩:=close .ready none s (by simp) hL' hΦ'
    exact ⟨none,_,hrun,hafter _ s hdD hI _ _ hs'⟩
   ·obtain ⟨hrun,hs'⟩:=close .done (some c) s (by simp) hL' hΦ'
    have h6:=hstop _ c s hdD hI _ _ hs'
    have:(X.wd ((w.heap.size,.deferred (some []))::X.D)).rho=none:=hro
    rw [this] at h6
    exact ⟨some c,_,hrun,h6⟩
  ·-- one round
   rintro x rest L0 Φ0 ⟨s,hIs,rfl,rfl⟩ wr hr hfr hsr hor
   have hl:=(hor.1 _ (List.mem_cons_self ..)).1
   simp only at hl
   have hy:=run_yield (P:=P) (args:=#[enc x]) hl (by rw [hrec];rfl)
   rw [hrec] at hy
   refine ⟨_,_,assign,body,hy,roundIn_of_wpIn trivial ?_⟩
   have hdist:w.heap.size+1≠w.heap.size:=by omega
   let M0:List Nat:=(w.heap.size+1)::w.heap.size::(Lk s).map Prod.fst
   let Y:Cx:=⟨wr,hr,M0,some (w.heap.size+1),[(w.heap.size+1,.loop (rec .ready none)),(w.heap.size,.deferred (some []))]⟩
   let Y':Cx:=⟨wr,hr,M0,some (w.heap.size+1),[(w.heap.size+1,.loop {rec .ready none with state:=.busy}),(w.heap.size,.deferred (some []))]⟩
   have hb:=hround x rest s hIs Y Y' (fun a₁ w₁=>∃ w₂,(Instr.beginRound (w.heap.size+1)).run P w₁=.ok () w₂∧body.wpIn (Fence.wide.inRound (w.heap.size+1)) 0 P
    (roundPost P (w.heap.size+1) fun e w'=>∃ b L' Φ',e=.returned (.bool b)∧(if b then It rest L' Φ' else Itx L' Φ')∧StW (cx wr hr M0) L' Φ' w') a₁ w₂) rfl ?_
   ·refine hb _ wr ⟨?_,rfl,?_,hr,⟨hfr,hsr,Hp.le_refl hr,fun b hb=>.inl hb,hor.sub ((List.sublist_cons_self _ _).trans (List.sublist_cons_self _ _)),fun e he=>.inl ?_,KeptBut.refl _ _,fun d hd=>?_⟩⟩
    ·have:a.tmps.size=n:=hs.size
     simp [this]
    ·have:=hs.has.put (d:=p) (by rw [hs.size];simpa [X5,Nat.blt_eq] using hpn) (enc x)
     exact fun t v e=>by simpa [Act.put] using this t v e
    ·exact List.mem_cons_of_mem _ (List.mem_cons_of_mem _ (List.mem_map_of_mem he))
    ·have hnd:=hor.2
     simp only [List.map_cons,List.nodup_cons,List.mem_cons,not_or] at hnd
     simp only [Y,List.mem_cons,List.not_mem_nil,or_false] at hd
     rcases hd with rfl | rfl
     ·exact ⟨hl,(hor.1 _ (List.mem_cons_self ..)).2,fun e he hE=>hnd.1.2 (by simp only at hE;rw [← hE];exact List.mem_map_of_mem he),.inr (by simp [Y,M0])⟩
     ·have h1:=hor.1 _ (List.mem_cons_of_mem _ (List.mem_cons_self ..))
      exact ⟨h1.1,h1.2,fun e he hE=>hnd.2.1 (by simp only at hE;rw [← hE];exact List.mem_map_of_mem he),.inr (by simp [Y,M0])⟩
   ·-- the record turns to busy;the body;the record turns back
    intro E1 L1 Φ1 hJ a1 w2 hs1
    obtain ⟨q1,hq1⟩:=hs1.world
    have hl1:=(hq1.res (w.heap.size+1,.loop (rec .ready none)) (by simp [Y])).1
    simp only at hl1
    refine ⟨_,run_beginRound hl1 (by rw [hrec]),?_⟩
    have hst1:StW Y' L1 Φ1 (w2.putObj (w.heap.size+1) (.loop {rec .ready none with state:=.busy})):=by
     have:=StW.reput (X:=Y) (d:=w.heap.size+1) (o:=.loop (rec .ready none)) (o':=.loop {rec .ready none with state:=.busy}) (ds:=[(w.heap.size,.deferred (some []))]) (by simp) hs1.world
     exact this
    have hbody:=hJ a1 _ ⟨hs1.size,hs1.defers,hs1.has,hst1⟩
    refine Code.wpIn_mono (fun e a2 w3 hp=>?_) hbody
    have fin:∀ (jump:Option Code) (s':σ),StW Y' (Lk s') (Φk s') w3 →
      (Instr.endRound (w.heap.size+1) jump).run P w3=.ok (.bool jump.isNone) (w3.putObj (w.heap.size+1) (.loop (rec (if jump.isNone then .ready else .done) jump))) ∧
      StW (cx wr hr M0) ((w.heap.size+1,.loop (rec (if jump.isNone then .ready else .done) jump))::(w.heap.size,.deferred (some []))::Lk s') (Φk s') (w3.putObj (w.heap.size+1) (.loop (rec (if jump.isNone then .ready else .done) jump))):=fun jump s' h3=>by
     obtain ⟨q3,hq3⟩:=h3
     have hl3:=(hq3.res (w.heap.size+1,.loop {rec .ready none with state:=.busy}) (by simp [Y'])).1
     simp only at hl3
     have hrun:=run_endRound (P:=P) jump hl3
     refine ⟨by rw [hrec] at hrun ⊢;exact hrun,?_⟩
     have h4:=StW.reput (X:=Y') (d:=w.heap.size+1) (o:=.loop {rec .ready none with state:=.busy}) (o':=.loop (rec (if jump.isNone then .ready else .done) jump)) (ds:=[(w.heap.size,.deferred (some []))]) (by simp) ⟨q3,hq3⟩
     exact StW.unres (by simp) h4
    cases e with
    | normal =>
     obtain ⟨s',hI',h3⟩:=hp
     obtain ⟨hrun,h4⟩:=fin none s' h3
     exact ⟨_,_,hrun,true,_,_,rfl,⟨s',hI',rfl,rfl⟩,h4⟩
    | ret =>
     obtain ⟨s',hI',h3⟩:=hp
     obtain ⟨hrun,h4⟩:=fin (some .ret) s' h3
     exact ⟨_,_,hrun,false,_,_,rfl,⟨.ret,s',hI',rfl,rfl⟩,h4⟩
    | exit id =>
     obtain ⟨s',hI',h3⟩:=hp
     obtain ⟨hrun,h4⟩:=fin (some (.exit id)) s' h3
     exact ⟨_,_,hrun,false,_,_,rfl,⟨.exit id,s',hI',rfl,rfl⟩,h4⟩
    | goto t=>exact hp.elim
    | panic c=>exact hp.elim
    | outgrown=>exact hp.elim
end
end Go.Fen
