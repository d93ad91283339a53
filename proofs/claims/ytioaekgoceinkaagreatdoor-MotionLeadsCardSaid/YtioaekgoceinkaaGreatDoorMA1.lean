import Derived.WalkKit
import Derived.BigQuiet
import Derived.Deep.QuietTactic
import Derived.Sort.QuietThIn
import Derived.Sort.LoopGhostIn
import Derived.LoopNIn
import Derived.RangeFuncNested
import Derived.Deep.LoopGhost
import Derived.ChangeKeysEq
import Derived.OrdersHeld
import Derived.Maps.AppendAt
set_option linter.unusedVariables false
set_option linter.unusedSimpArgs false
namespace Go.Fen
open Go Go.RowKit
abbrev Hp:=Nat→Option Obj
def Hp.le (h a:Hp):Prop:=∀ b o,h b=some o→a b=some o
def Hp.sub (h:Hp) (w:World):Prop:=∀ b o,h b=some o→w.heap[b]?=some o
theorem Hp.le_refl (h:Hp):h.le h:=fun _ _ e=>e
theorem Hp.le_trans {a b c:Hp} (h:a.le b) (k:b.le c):a.le c:=fun i o e=>k i o (h i o e)
structure Pers where
 p:Hp→Prop
 mono:∀ {h h':Hp},h.le h'→p h→p h'
abbrev Own:=List (Nat×Obj)
abbrev Env:=List (Nat×Value)
structure Cx where
 w0:World
 h0:Hp
 M:List Nat
 rho:Option Nat
 D:List (Nat×Obj)
def FW (ρ:Option Nat):Fence:={fn:=fun _=>True,depth:=none,alive:=false,round:=ρ}
theorem B1s {ρ:Option Nat} {k:Nat} {P:Program} {f:FuncId} {args:Array Value} {w:World} {R:Ending→World→Prop} (h:Calls P f args w R):CallsIn (FW ρ) k P f args w R :=
 (callsIn_wide (n:=k)).2 h
theorem D9t {ρ:Option Nat} {k:Nat} {P:Program} {row:String} {args:Array Value} {w:World} {R:Value→World→Prop} (h:Rows P row args w R):RowsIn (FW ρ) k P row args w R :=
 fun c cs _=>let ⟨v,w',hR,hs⟩:=h c cs;⟨v,w',hR,stepsIn_wide.2 hs⟩
theorem A5p {ρ:Option Nat} {k:Nat}:(FW ρ).depth.isSome=true→1≤k:=fun h=>by simp [FW] at h
def B9s:Op→Bool
 | .defer _=>true
 | _=>false
theorem A7c {ρ:Option Nat} {P:Program} {o:Oper} {a:Act} {w:World} {K:Act→World→Prop} {Q:Exit→Act→World→Prop} (b:B9s o.op=false) (h:o.wp P a w K Q):o.wpIn (FW ρ) 0 P a w K Q:=by
 refine ⟨fun _ _=>trivial,?_⟩
 rw [Oper.semAt_eq _ _ _ (fun c e=>by rw [e] at b;cases b)]
 unfold Oper.wp at h
 revert h
 generalize (execOp a.eval o).run P w=r
 intro h
 cases r with
 | ok x w' =>
  cases x with
  | value v=>exact h
  | skip=>exact h
  | defer d=>exact h
  | enter f args=>exact ⟨A5p,B1s h⟩
  | row row args=>exact ⟨A5p,D9t h⟩
  | _=>exact h.elim
 | halt x w'=>cases x<;>first | exact h | exact h.elim
def B7g (d:Nat):Deferred:={target:=.collected d,args:=#[]}
def Cx.marks (X:Cx):List Deferred:=match X.rho with | none=>X.D.map (B7g ·.1) | some _=>[]
structure KeptBut (M:List Nat) (w w':World):Prop where
 os:w'.os=w.os
 tape:w'.tape=w.tape
 output:w'.output=w.output
 size:w.heap.size≤w'.heap.size
 block:∀ k,k<w.heap.size→k ∉ M→w'.heap[k]?=w.heap[k]?
theorem KeptBut.refl (M:List Nat) (w:World):KeptBut M w w:=⟨rfl,rfl,rfl,Nat.le_refl _,fun _ _ _=>rfl⟩
theorem oom {p:Prop} (h:p:=by simp):p:=h
theorem KeptBut.below {w w':World} (h:KeptBut [] w w'):Below w.heap.size w w':=⟨h.os,h.tape,h.output,h.size,fun k a=>h.block k a oom⟩
theorem KeptBut.of_below {w w':World} (h:Below w.heap.size w w'):KeptBut [] w w':=⟨h.os,h.tape,h.output,h.size,fun k a _=>h.block k a⟩
theorem KeptBut.trans {M:List Nat} {a b c:World} (h:KeptBut M a b) (k:KeptBut M b c):KeptBut M a c :=
 ⟨k.os.trans h.os,k.tape.trans h.tape,k.output.trans h.output,Nat.le_trans h.size k.size,fun i d e=>(k.block i (Nat.lt_of_lt_of_le d h.size) e).trans (h.block i d e)⟩
def A0u (L:Own) (h:Hp) (w:World):Prop:=(∀ e ∈ L,w.heap[e.1]?=some e.2∧h e.1=none)∧(L.map Prod.fst).Nodup
structure StH (X:Cx) (L:Own) (Φ:List Pers) (h:Hp) (w:World):Prop where
 facts:∀ q ∈ Φ,q.p h
 sub:h.sub w
 le:X.h0.le h
 dom:∀ b,h b≠none→X.h0 b≠none∨(b ∈ X.M∨X.w0.heap.size≤b)
 own:A0u L h w
 may:∀ e ∈ L,e.1 ∈ X.M∨X.w0.heap.size≤e.1
 kept:KeptBut X.M X.w0 w
 res:∀ d ∈ X.D,w.heap[d.1]?=some d.2∧h d.1=none∧(∀ e ∈ L,e.1≠d.1)∧(X.w0.heap.size≤d.1∨d.1 ∈ X.M)
def StW (X:Cx) (L:Own) (Φ:List Pers) (w:World):Prop:=∃ h,StH X L Φ h w
def Has (a:Act) (E:Env):Prop:=∀ t v,E.lookup t=some v→a.tmps[t]?=some v
structure St (n:Nat) (X:Cx) (E:Env) (L:Own) (Φ:List Pers) (a:Act) (w:World):Prop where
 size:a.tmps.size=n
 defers:a.defers=X.marks
 has:Has a E
 world:StW X L Φ w
def ev (E:Env):Operand→Option Value
 | .tmp t=>E.lookup t
 | .const v=>some v
 | .global g=>some (.pointer (some ⟨g,0,none⟩))
 | .func f=>some (.func (.func f) #[] #[])
theorem C4 {a:Act} {E:Env} (h:Has a E) {x:Operand} {v:Value} (e:ev E x=some v):a.eval x=v:=by
 cases x with
 | tmp t=>have:=h t v e;simp [Act.eval,this]
 | const u=>simp [ev] at e;simp [Act.eval,e]
 | global g=>simp [ev] at e;simp [Act.eval,e]
 | func f=>simp [ev] at e;simp [Act.eval,e]
theorem Has.put {a:Act} {E:Env} (h:Has a E) {d:Nat} (b:d<a.tmps.size) (v:Value):Has (a.put (some d) v) ((d,v)::E):=by
 intro t u e
 simp only [Act.put]
 by_cases ht:t=d
 ·subst ht
  simp [List.lookup] at e
  simp [b,e]
 ·have:(t == d)=false:=by simpa using ht
  simp only [List.lookup,this] at e
  rw [Array.getElem?_setIfInBounds,if_neg (fun e=>ht e.symm)]
  exact h t u e
theorem Act.put_size (a:Act) (d:Option Nat) (v:Value):(a.put d v).tmps.size=a.tmps.size:=by cases d<;>simp [Act.put]
theorem Act.put_defers' (a:Act) (d:Option Nat) (v:Value):(a.put d v).defers=a.defers:=by cases d<;>rfl
def Env.put (E:Env) (d:Option Nat) (v:Value):Env:=match d with | some d=>(d,v)::E | none=>E
def X1 (n:Nat):Option Nat→Bool | some d=>Nat.blt d n | none=>true
theorem St.put {n:Nat} {X:Cx} {E:Env} {L L':Own} {Φ Φ':List Pers} {a:Act} {w w':World} (h:St n X E L Φ a w) {d:Option Nat} (b:X1 n d=true) (v:Value) (c:StW X L' Φ' w'):St n X (Env.put E d v) L' Φ' (a.put d v) w':=by
 refine ⟨by rw [Act.put_size,h.size],by rw [Act.put_defers',h.defers],?_,c⟩
 cases d with
 | none=>exact h.has
 | some d=>exact h.has.put (by rw [h.size];simpa [X1,Nat.blt_eq] using b) v
section
variable (P:Program) (n:Nat) (X:Cx)
def J (c:Code) (Q:Exit→Act→World→Prop) (E:Env) (L:Own) (Φ:List Pers):Prop:=∀ a w,St n X E L Φ a w→c.wpIn (FW X.rho) 0 P Q a w
def JQ (K:Act→World→Prop) (E:Env) (L:Own) (Φ:List Pers):Prop:=∀ a w,St n X E L Φ a w→K a w
def JI (b:Array Oper) (i m:Nat) (K:Act→World→Prop) (Q:Exit→Act→World→Prop) (E:Env) (L:Own) (Φ:List Pers):Prop :=
 ∀ a w,St n X E L Φ a w→wpListIn (FW X.rho) 0 P b (Exit.then K Q) ((b.toList.drop i).take m) a w
end
section
variable {P:Program} {n:Nat} {X:Cx} {K:Act→World→Prop} {Q:Exit→Act→World→Prop} {E E':Env} {L L':Own} {Φ Φ':List Pers}
theorem A5 {x y:Code} (h:J P n X x (Exit.then (fun a w=>y.wpIn (FW X.rho) 0 P Q a w) Q) E L Φ):J P n X (.seq x y) Q E L Φ:=fun a w b=>wpIn_seq (h a w b)
theorem D1l (Q:Exit→Act→World→Prop):Exit.then (Q .normal) Q=Q:=by funext e a w;cases e<;>rfl
theorem A1 {id:Nat} {b:Array Oper} (m:Nat) (c:b.size=m) (h:JI P n X b 0 m (Q .normal) Q E L Φ):J P n X (.region id b false) Q E L Φ:=fun a w d=>wpIn_region_list (by
 have:=h a w d
 rw [D1l,List.drop_zero,List.take_of_length_le (by simp [← c])] at this
 exact this)
theorem A6 (h:JQ n X (Q .normal) E L Φ):J P n X .skip Q E L Φ:=fun a w b=>wpIn_skip (h a w b)
theorem B4 {id:Nat} {c:Code} (h:J P n X c (Exit.inBlock id Q) E L Φ):J P n X (.block id c) Q E L Φ:=fun a w b=>wpIn_block (h a w b)
theorem H3 {id:Nat} (h:JQ n X (Q (.exit id)) E L Φ):J P n X (.exit id) Q E L Φ:=fun a w b=>wpIn_exit (h a w b)
theorem A8 (h:JQ n X (Q .ret) E L Φ):J P n X .ret Q E L Φ:=fun a w b=>wpIn_ret (h a w b)
theorem W8 {c:Operand} {x y:Code} {g:Bool} (f:ev E c=some (.bool g)) (d:g=true→J P n X x Q E L Φ) (h:g=false→J P n X y Q E L Φ):J P n X (.cond c x y) Q E L Φ :=
 fun a w b=>wpIn_cond_split (C4 b.has f) (fun e=>d e a w b) (fun e=>h e a w b)
theorem G8 {c:Operand} {x y:Code} (b:ev E c=some (.bool true)) (a:J P n X x Q E L Φ):J P n X (.cond c x y) Q E L Φ:=W8 b (fun _=>a) (fun e=>by cases e)
theorem A0f {c:Operand} {x y:Code} (b:ev E c=some (.bool false)) (a:J P n X y Q E L Φ):J P n X (.cond c x y) Q E L Φ:=W8 b (fun e=>by cases e) (fun _=>a)
theorem A3 {b:Array Oper} {i:Nat} (h:JQ n X K E L Φ):JI P n X b i 0 K Q E L Φ:=fun a w c=>by
 rw [List.take_zero];exact wpListIn_nil (h a w c)
def Tri (P:Program) (n:Nat) (X:Cx) (o:Oper) (E:Env) (L:Own) (Φ:List Pers) (α:Type) (val:α→Value) (L':α→Own) (Φ':α→List Pers):Prop :=
 ∀ a w (K:Act→World→Prop) (Q:Exit→Act→World→Prop),St n X E L Φ a w→(∀ x w',StW X (L' x) (Φ' x) w'→K (a.put o.dst (val x)) w')→o.wpIn (FW X.rho) 0 P a w K Q
def B0l (a:Array Oper) (o:Oper) (E:Env):Option Bool :=
 match o.guard with
 | none=>some true
 | some (j,want)=>match ((a[j]?).bind (·.dst)).bind (E.lookup ·) with
  | some (.bool b)=>some (b == want)
  | some (.tuple _)=>some false
  | _=>none
theorem A0o {g:Array Oper} {o:Oper} {a:Act} {b:Bool} (l:Has a E) (h:B0l g o E=some b):Region.wanted o (yielded g a.tmps)=b:=by
 unfold B0l at h
 unfold Region.wanted
 split at h
 ·simp_all
 ·rename_i j f m
  simp only [m]
  split at h
  ·rename_i c k
   obtain ⟨d,i,e⟩:=Option.bind_eq_some_iff.1 k
   have:=l d _ e
   simp only [Option.some.injEq] at h
   simp only [yielded,i,Option.bind_some,this]
   rw [← h]
   cases c<;>cases f<;>rfl
  ·rename_i n k
   obtain ⟨d,i,e⟩:=Option.bind_eq_some_iff.1 k
   have:=l d _ e
   simp only [Option.some.injEq] at h
   simp only [yielded,i,Option.bind_some,this]
   rw [← h]
   rfl
  ·cases h
theorem A9h {a:Array Oper} {i:Nat} {o:Oper} (h:a[i]?=some o):a.toList.drop i=o::a.toList.drop (i+1):=by
 have b:i<a.toList.length:=by
  rcases Nat.lt_or_ge i a.size with h' | h'
  ·simpa using h'
  ·rw [Array.getElem?_eq_none h'] at h;cases h
 rw [List.drop_eq_getElem_cons b]
 congr 1
 have:a[i]?=some (a.toList[i]):=by rw [Array.getElem?_eq_getElem (by simpa using b)];rfl
 rw [this] at h;exact Option.some.inj h
theorem C6f {b:Array Oper} {i m:Nat} {o:Oper} {α:Type} {val:α→Value} {L':α→Own} {Φ':α→List Pers} (e:b[i]?=some o) (g:B0l b o E=some true) (j:X1 n o.dst=true)
  (k:Tri P n X o E L Φ α val L' Φ') (h:∀ x,JI P n X b (i+1) m K Q (Env.put E o.dst (val x)) (L' x) (Φ' x)):JI P n X b i (m+1) K Q E L Φ:=by
 intro a w d
 rw [A9h e,List.take_succ_cons]
 refine wpListIn_step fun K f=>?_
 rw [if_pos (A0o d.has g)]
 exact k a w K _ d fun x w' c=>f _ _ (h x _ _ (d.put j _ c))
theorem D4b {b:Array Oper} {i m:Nat} {o:Oper} (e:b[i]?=some o) (g:B0l b o E=some false) (d:X1 n o.dst=true)
  (h:JI P n X b (i+1) m K Q (Env.put E o.dst undef) L Φ):JI P n X b i (m+1) K Q E L Φ:=by
 intro a w c
 rw [A9h e,List.take_succ_cons]
 refine wpListIn_step fun K f=>?_
 rw [if_neg (by rw [A0o c.has g];simp)]
 exact ⟨fun _ _=>trivial,f _ _ (h _ _ (c.put d _ c.world))⟩
def Det (P:Program) (X:Cx) (o:Oper) (E:Env) (L:Own) (Φ:List Pers) (v:Value):Prop:=∀ a,Has a E→∀ w,StW X L Φ w→o.quietAt P a (StW X L Φ) w v
theorem Det.tri {o:Oper} {v:Value} (h:Det P X o E L Φ v):Tri P n X o E L Φ Unit (fun _=>v) (fun _=>L) (fun _=>Φ):=by
 intro a w K Q' g j
 have b:=h a g.has w g.world
 have i:B9s o.op=false:=by
  cases ho:o.op with
  | defer c =>
   exfalso
   unfold Oper.quietAt at b
   have:(execOp a.eval o).run P w=Result.andThen ((resolve a.eval c o.type).run P w) fun d=>(pure (Next.defer d):Sem Next).run P:=by
    simp [execOp,ho]
    rfl
   rw [this] at b
   cases hr:(resolve a.eval c o.type).run P w with
   | ok d w'=>rw [hr] at b;exact b.elim
   | halt x w'=>rw [hr] at b;exact b.elim
  | _=>rfl
 refine A7c i ?_
 unfold Oper.quietAt Oper.quietUpon at b
 unfold Oper.wp Oper.upon
 split at b
 ·rename_i u w' hr;rw [hr];obtain ⟨rfl,rfl⟩:=b;exact j () _ g.world
 ·rename_i w' hr;rw [hr];obtain ⟨rfl,rfl⟩:=b;exact j () _ g.world
 ·rename_i f args w' hr;rw [hr];obtain ⟨rfl,k⟩:=b
  exact k.mono fun e l ⟨m,p⟩=>by subst m;exact j () _ p
 ·exact b.elim
theorem C8e {a:Array Oper} {i m:Nat} {o:Oper} {v:Value} (c:a[i]?=some o) (e:B0l a o E=some true) (b:X1 n o.dst=true)
  (d:Det P X o E L Φ v) (h:JI P n X a (i+1) m K Q (Env.put E o.dst v) L Φ):JI P n X a i (m+1) K Q E L Φ:=C6f c e b d.tri fun _=>h
theorem Has.weaken {a:Act} (h:Has a E) (hE:∀ e ∈ E',E.lookup e.1=some e.2):Has a E':=by
 intro t v e
 induction E' with
 | nil=>simp [List.lookup] at e
 | cons x xs ih =>
  obtain ⟨c,f⟩:=x
  by_cases ht:t=c
  ·subst ht
   simp [List.lookup] at e
   subst e
   exact h _ _ (hE (t,f) oom)
  ·have:(t == c)=false:=by simpa using ht
   simp only [List.lookup,this] at e
   exact ih (fun d b=>hE d (by simp [b])) e
def S5 (E:Env):Env→Prop
 | []=>True
 | (t,v)::rest=>E.lookup t=some v∧S5 E rest
theorem Q7:∀ {E':Env},S5 E E'→∀ e ∈ E',E.lookup e.1=some e.2
 | [],_,e,he=>by cases he
 | (t,v)::rest,h,e,he=>by
  rcases List.mem_cons.1 he with rfl | he
  ·exact h.1
  ·exact Q7 h.2 e he
theorem St.env {a:Act} {w:World} (h:St n X E L Φ a w) (hE:S5 E E'):St n X E' L Φ a w:=⟨h.size,h.defers,h.has.weaken (Q7 hE),h.world⟩
theorem StW.mono {w:World} (h:StW X L Φ w) (hΦ:∀ q ∈ Φ',q ∈ Φ):StW X L Φ' w:=let ⟨p,hp⟩:=h;⟨p,⟨fun q a=>hp.facts q (hΦ q a),hp.sub,hp.le,hp.dom,hp.own,hp.may,hp.kept,hp.res⟩⟩
theorem StW.fact {w:World} (h:StW X L Φ w) (q:Pers) (b:∀ p:Hp,(∀ q ∈ Φ,q.p p)→q.p p):StW X L (q::Φ) w :=
 let ⟨p,hp⟩:=h;⟨p,⟨fun c a=>by rcases List.mem_cons.1 a with rfl | a;exact b _ hp.facts;exact hp.facts c a,hp.sub,hp.le,hp.dom,hp.own,hp.may,hp.kept,hp.res⟩⟩
theorem D9z {b:Array Oper} {i m:Nat} (q:Pers) (d:∀ p:Hp,(∀ q ∈ Φ,q.p p)→q.p p) (h:JI P n X b i m K Q E L (q::Φ)):JI P n X b i m K Q E L Φ :=
 fun a w c=>h a w ⟨c.size,c.defers,c.has,c.world.fact q d⟩
theorem E0o {c:Code} (q:Pers) (d:∀ p:Hp,(∀ q ∈ Φ,q.p p)→q.p p) (h:J P n X c Q E L (q::Φ)):J P n X c Q E L Φ :=
 fun a w b=>h a w ⟨b.size,b.defers,b.has,b.world.fact q d⟩
theorem D0d {c:Code} (E':Env) (hE:S5 E E') (h:J P n X c Q E' L Φ):J P n X c Q E L Φ:=fun a w b=>h a w (b.env hE)
theorem Has.lit {a:Act} (c:Has a E) {t:Nat} {g b:Bool} (f:E.lookup t=some (.bool g)) (h:g=b):Has a ((t,.bool b)::E):=by
 intro d v e
 by_cases he:d=t
 ·subst he;simp [List.lookup] at e;subst e;rw [← h];exact c _ _ f
 ·have:(d == t)=false:=by simpa using he
  simp only [List.lookup,this] at e
  exact c _ _ e
theorem D0x {c:Array Oper} {i m:Nat} (t:Nat) (g:Bool) (d:E.lookup t=some (.bool g)) (e:g=true→JI P n X c i m K Q ((t,.bool true)::E) L Φ) (f:g=false→JI P n X c i m K Q ((t,.bool false)::E) L Φ):JI P n X c i m K Q E L Φ:=by
 intro a w b
 cases hg:g with
 | true=>exact e hg a w ⟨b.size,b.defers,b.has.lit d hg,b.world⟩
 | false=>exact f hg a w ⟨b.size,b.defers,b.has.lit d hg,b.world⟩
theorem C2h {F:Fence} {k:Nat} {o:Oper} {a:Act} {K K':Act→World→Prop} {Q Q':Exit→Act→World→Prop} (g:∀ a w,K a w→K' a w) (j:∀ c a w,Q (.panic c) a w→Q' (.panic c) a w) (m:LetsOut Q→LetsOut Q') {r:Result Next} (h:o.uponIn F k P a K Q r):o.uponIn F k P a K' Q' r:=by
 cases r with
 | ok x w' =>
  cases x with
  | value v=>exact g _ _ h
  | skip=>exact g _ _ h
  | defer d=>exact g _ _ h
  | enter f args=>exact ⟨h.1,h.2.mono fun e i b=>by
    cases e with
    | returned v=>exact g _ _ b
    | panicked chain=>exact j _ _ _ b
    | outgrown=>exact m b⟩
  | row row args=>exact ⟨h.1,h.2.mono fun v i b=>g _ _ b⟩
  | round l f tmps assign body=>exact ⟨h.1,h.2.mono fun e i b=>by
    cases e with
    | returned v=>exact g _ _ b
    | panicked chain=>exact j _ _ _ b
    | outgrown=>exact m b⟩
  | _=>exact h.elim
 | halt x w'=>cases x<;>first | exact j _ _ _ h | exact h.elim
theorem B7b {F:Fence} {k:Nat} {b:Array Oper} {K:Act→World→Prop}:∀ (e d:List Oper) (a:Act) (w:World),wpListIn F k P b (Exit.then K Q) e a w→(∀ a w,K a w→wpListIn F k P b Q d a w)→wpListIn F k P b Q (e++d) a w
 | [],_,a,w,h,hk=>hk a w h
 | o::e,d,a,w,h,hk=>by
  simp only [List.cons_append,wpListIn] at h ⊢
  have g:=fun a w h=>B7b e d a w h hk
  split
  ·rename_i f
   rw [if_pos f] at h
   exact ⟨h.1,C2h (fun a w h=>g a w h) (fun c a w h=>h) (fun h=>h) h.2⟩
  ·rename_i f
   rw [if_neg f] at h
   exact ⟨h.1,g _ _ h.2⟩
theorem D5i (K K':Act→World→Prop) (Q:Exit→Act→World→Prop):Exit.then K (Exit.then K' Q)=Exit.then K Q:=by funext e a w;cases e<;>rfl
theorem D5z {b:Array Oper} {i:Nat} (k m:Nat) (E1:Env) (L1:Own) (Φ1:List Pers) (h:JI P n X b i k (fun a w=>St n X E1 L1 Φ1 a w) Q E L Φ) (e:JI P n X b (i+k) m K Q E1 L1 Φ1):JI P n X b i (k+m) K Q E L Φ:=by
 intro a w d
 rw [List.take_add,List.drop_drop]
 refine B7b (K:=fun a w=>St n X E1 L1 Φ1 a w) _ _ a w ?_ fun a w c=>e a w c
 rw [D5i]
 exact h a w d
end
end Go.Fen
set_option linter.unusedVariables false
set_option linter.unusedSimpArgs false
namespace Go.Fen
open Go Go.RowKit
def bOp (c:BinOp) (k:IntKind) (a b:Int):Int :=
 k.wrap (match c with
  | .and=>BitVec.ofInt k.bits a &&& BitVec.ofInt k.bits b
  | .or=>BitVec.ofInt k.bits a ||| BitVec.ofInt k.bits b
  | .xor=>BitVec.ofInt k.bits a ^^^ BitVec.ofInt k.bits b
  | _=>BitVec.ofInt k.bits a &&& ~~~BitVec.ofInt k.bits b:BitVec k.bits).toNat
def C0e (c:BinOp) (u v:Value):Option Value :=
 match c,u,v with
 | .lss,.int j a,.int k b=>if j=k then some (.bool (decide (a<b))) else none
 | .leq,.int j a,.int k b=>if j=k then some (.bool (decide (a≤b))) else none
 | .gtr,.int j a,.int k b=>if j=k then some (.bool (decide (b<a))) else none
 | .geq,.int j a,.int k b=>if j=k then some (.bool (decide (b≤a))) else none
 | .eql,.int j a,.int k b=>if j=k then some (.bool (decide (a=b))) else none
 | .neq,.int j a,.int k b=>if j=k then some (.bool (!decide (a=b))) else none
 | .add,.int j a,.int k b=>if j=k then some (.int j (j.wrap (a+b))) else none
 | .sub,.int j a,.int k b=>if j=k then some (.int j (j.wrap (a - b))) else none
 | .mul,.int j a,.int k b=>if j=k then some (.int j (j.wrap (a * b))) else none
 | .and,.int j a,.int k b=>if j=k then some (.int j (bOp .and j a b)) else none
 | .or,.int j a,.int k b=>if j=k then some (.int j (bOp .or j a b)) else none
 | .xor,.int j a,.int k b=>if j=k then some (.int j (bOp .xor j a b)) else none
 | .andNot,.int j a,.int k b=>if j=k then some (.int j (bOp .andNot j a b)) else none
 | .eql,.string a,.string b=>some (.bool (a.toList == b.toList))
 | .neq,.string a,.string b=>some (.bool (!(a.toList == b.toList)))
 | _,_,_=>none
def D4w:Option TypeDesc→Option Value→Option Value
 | some (.slice _),some (.slice _ l _)=>some (.int .i64 l)
 | some .string,some (.string s)=>some (.int .i64 s.size)
 | _,_=>none
def C9a (c:Bool) (u v:Option Value) (n:Nat):Option Value :=
 match u,v with
 | some (.int j a),some (.int k b)=>if j=k∧n=2 then some (.int j (if c then (if b > a then b else a) else (if b<a then b else a))) else none
 | _,_=>none
def B2v (P:Program) (E:Env):Op→Option Value
 | .move x=>ev E x
 | .assign x=>ev E x
 | .pick c a b=>match ev E c with
  | some (.bool true)=>ev E a
  | some (.bool false)=>ev E b
  | _=>none
 | .binOp op _ x y _=>match ev E x,ev E y with
  | some u,some v=>C0e op u v
  | _,_=>none
 | .unOp op _ x=>match op,ev E x with
  | .not,some (.bool b)=>some (.bool !b)
  | .neg,some (.int k m)=>some (.int k (k.wrap (0 - m)))
  | _,_=>none
 | .extract t i=>match ev E t with
  | some (.tuple vs)=>vs[i]?
  | _=>none
 | .makeFunc fn first cap=>match first.toList.mapM (ev E),cap.toList.mapM (ev E) with
  | some fs,some cs=>some (.func fn fs.toArray cs.toArray)
  | _,_=>none
 | .call c=>match c.callee,c.args[0]?,c.argTypes[0]? with
  | .builtin .len,some x,some t=>D4w (P.underlying t) (ev E x)
  | .builtin .max,some x,_=>C9a true (ev E x) (c.args[1]?.bind (ev E)) c.args.size
  | .builtin .min,some x,_=>C9a false (ev E x) (c.args[1]?.bind (ev E)) c.args.size
  | _,_,_=>none
 | .nilCheck x=>match ev E x with
  | some (.pointer (some a))=>some (.pointer (some a))
  | _=>none
 | .convert S T x=>match P.underlying S,P.underlying T,ev E x with
  | some _,some (.int k),some (.int _ m)=>some (.int k (k.wrap m))
  | _,_,_=>none
 | .fieldAddr s x f=>match P.underlying s,ev E x with
  | some (.struct fields),some (.pointer (some a))=>match fields[f]? with
   | some fd=>match P.info? fd.type with
    | some i=>if i.size=0 then none else some (.pointer (some (a.add fd.offset)))
    | none=>none
   | none=>none
  | _,_=>none
 | .field s x f=>match P.underlying s,ev E x with
  | some (.struct fields),some (.agg cs)=>match fields[f]? with
   | some fd=>match P.underlying fd.type,P.info? fd.type with
    | some (.struct _),some i=>some (.agg (cs.extract fd.offset (fd.offset+i.size)))
    | some (.array _ _),some i=>some (.agg (cs.extract fd.offset (fd.offset+i.size)))
    | some _,some _=>cs[fd.offset]?
    | _,_=>none
   | none=>none
  | _,_=>none
 | _=>none
section
variable {P:Program} {n:Nat} {X:Cx} {Q:Exit→Act→World→Prop} {E E':Env} {L L':Own} {Φ Φ':List Pers}
def G7 (P:Program) (X:Cx) (o:Oper) (E:Env) (L:Own) (Φ:List Pers) (v:Value):Prop:=∀ a w,Has a E→StW X L Φ w→(execOp a.eval o).run P w=.ok (.value v) w
theorem G7.of_run {o:Oper} {v:Value} (h:∀ a w,Has a E→StW X L Φ w→(execOp a.eval o).run P w=.ok (.value v) w):G7 P X o E L Φ v:=h
theorem Det.of_run {o:Oper} {v:Value} (h:∀ a w,Has a E→StW X L Φ w→(execOp a.eval o).run P w=.ok (.value v) w):Det P X o E L Φ v:=by
 intro a c w b
 unfold Oper.quietAt
 rw [h a w c b]
 exact ⟨rfl,rfl⟩
theorem A7m {t:TypeId} {i:TypeInfo} (h:P.info? t=some i) (w:World):(typeInfo t).run P w=.ok i w:=by
 simp [typeInfo,h]
theorem A3m {t:TypeId} {i:TypeInfo} (h:P.info? t=some i) (w:World):(sizeOf t).run P w=.ok i.size w:=by
 simp [sizeOf,A7m h]
theorem C9y {a:BinOp} {u v r:Value} (h:C0e a u v=some r) (t:TypeId) (x y:Operand) (w:World) :
  (do eqGuard a t x y u v;binOp a t u v:Sem Value).run P w=.ok r w:=by
 unfold C0e at h
 split at h<;>(try split at h)<;>simp only [Option.some.injEq,reduceCtorEq] at h<;>(try subst h)<;>(try subst_vars) <;>
  simp [eqGuard,binOp,Op.intCmp,Op.intArith,Op.stringOp,Op.intBits,bOp]<;>rfl
theorem D4p {a:Act} (d:Has a E):∀ {xs:List Operand} {b:List Value},xs.mapM (ev E)=some b→xs.map a.eval=b
 | [],b,h=>by simp at h;simp [h]
 | x::xs,b,h=>by
  simp only [List.mapM_cons,Option.bind_eq_bind,Option.bind_eq_some_iff] at h
  obtain ⟨v,e,us,c,h⟩:=h
  simp only [Option.pure_def,Option.some.injEq] at h
  subst h
  simp [C4 d e,D4p d c]
theorem A7b {a:Act} (c:Has a E) {xs:Array Operand} {b:List Value} (h:xs.toList.mapM (ev E)=some b):xs.map a.eval=b.toArray:=by
 have:=D4p c h
 apply Array.ext'
 simpa using this
theorem B5z {t:TypeId} {d:TypeDesc} (h:P.underlying t=some d) (w:World):(isAgg t).run P w=.ok (match d with | .struct _ | .array _ _=>true | _=>false) w:=by
 unfold isAgg
 rw [Sem.run_bind,run_underlying h]
 cases d<;>rfl
theorem D6h {o:Oper} {c:Call} {r:Bool} {x:Operand} {v:Value} {a:Act} (i:Has a E) (t:o.op=.call c) (e:(c.callee=.builtin .max∧r=true)∨(c.callee=.builtin .min∧r=false)) (d:c.args[0]?=some x)
  (h:C9a r (ev E x) (c.args[1]?.bind (ev E)) c.args.size=some v) (w:World):(execOp a.eval o).run P w=.ok (.value v) w:=by
 unfold C9a at h
 split at h
 ·rename_i j m k l u n
  split at h
  ·rename_i s
   obtain ⟨rfl,f⟩:=s
   simp only [Option.some.injEq] at h
   obtain ⟨y,g,n⟩:=Option.bind_eq_some_iff.1 n
   obtain ⟨xs⟩:∃ xs:List Operand,c.args=xs.toArray:=⟨c.args.toList,by simp⟩
   rename_i b
   rw [b] at d g f
   match xs,d,g,f with
   | [p,q],d,g,_ =>
    simp at d g
    subst d g
    rcases e with ⟨e,rfl⟩ | ⟨e,rfl⟩
    ·subst h
     simp [execOp,t,resolve,e,b,C4 i u,C4 i n,invoke,builtin,Builtin.max_,Builtin.max2]
    ·subst h
     simp [execOp,t,resolve,e,b,C4 i u,C4 i n,invoke,builtin,Builtin.min_,Builtin.min2]
  ·cases h
 ·cases h
theorem C5b {o:Oper} {v:Value} (h:B2v P E o.op=some v) (a:Act) (w:World) (f:Has a E):(execOp a.eval o).run P w=.ok (.value v) w:=by
 unfold B2v at h
 split at h<;>(rename_i b)
 ·simp [execOp,b,C4 f h]
 ·simp [execOp,b,C4 f h]
 ·split at h
  ·rename_i g
   simp [execOp,b,C4 f g,asBool,C4 f h]
  ·rename_i g
   simp [execOp,b,C4 f g,asBool,C4 f h]
  ·cases h
 ·split at h
  ·rename_i c y
   have:=C9y (P:=P) h
   simp only [execOp,b,C4 f c,C4 f y]
   rw [Sem.run_bind,this]
   rfl
  ·cases h
 ·split at h
  ·rename_i c
   simp only [Option.some.injEq] at h;subst h
   simp [execOp,b,C4 f c,Op.unary]
  ·rename_i c
   simp only [Option.some.injEq] at h;subst h
   simp [execOp,b,C4 f c,Op.unary,Op.intArith]
  ·cases h
 ·split at h
  ·rename_i c
   simp only [execOp,b,C4 f c,Instr.extract,h]
   simp
  ·cases h
 ·split at h
  ·rename_i k m
   simp only [Option.some.injEq] at h;subst h
   simp only [execOp,b,A7b f k,A7b f m,Instr.makeFunc]
   rfl
  ·cases h
 ·split at h
  ·rename_i g c r
   unfold D4w at h
   split at h
   ·rename_i j p
    simp only [Option.some.injEq] at h;subst h
    simp [execOp,b,resolve,g,c,r,C4 f p,invoke,builtin,Builtin.len_,run_underlying j,goInt]
   ·rename_i j p
    simp only [Option.some.injEq] at h;subst h
    simp [execOp,b,resolve,g,c,r,C4 f p,invoke,builtin,Builtin.len_,run_underlying j,goInt]
   ·cases h
  ·rename_i g c
   exact D6h f b (.inl ⟨g,rfl⟩) c h w
  ·rename_i g c
   exact D6h f b (.inr ⟨g,rfl⟩) c h w
  ·cases h
 ·split at h
  ·rename_i c
   simp only [Option.some.injEq] at h;subst h
   simp [execOp,b,C4 f c]
  ·cases h
 ·split at h
  ·rename_i u z c
   simp only [Option.some.injEq] at h;subst h
   simp [execOp,b,C4 f c,convert,run_underlying z,run_underlying u,Conv.intToInt]
  ·cases h
 ·split at h
  ·rename_i j c
   split at h
   ·rename_i n
    split at h
    ·rename_i x
     split at h
     ·cases h
     ·rename_i s
      simp only [Option.some.injEq] at h;subst h
      simp [execOp,b,Instr.fieldAt,C4 f c,run_underlying j,n,Instr.sureAddr,fieldPlace,A3m x,s]
    ·cases h
   ·cases h
  ·cases h
 ·split at h
  ·rename_i j c
   split at h
   ·rename_i n
    split at h
    ·rename_i k m
     simp only [Option.some.injEq] at h;subst h
     simp [execOp,b,Instr.field,C4 f c,run_underlying j,n,asAgg,part,B5z k,A3m m]
    ·rename_i k m
     simp only [Option.some.injEq] at h;subst h
     simp [execOp,b,Instr.field,C4 f c,run_underlying j,n,asAgg,part,B5z k,A3m m]
    ·rename_i d i h3 t k m
     have q:(isAgg _).run P w=.ok false w:=(B5z k w).trans (by
      cases d with
      | struct fs=>exact absurd rfl (h3 fs)
      | array l e=>exact absurd rfl (t l e)
      | _=>rfl)
     simp [execOp,b,Instr.field,C4 f c,run_underlying j,n,asAgg,part,q,h]
    ·cases h
   ·cases h
  ·cases h
 ·cases h
end
end Go.Fen
set_option linter.unusedVariables false
set_option linter.unusedSimpArgs false
namespace Go.Fen
open Go Go.RowKit
section
variable {P:Program} {n:Nat} {X:Cx} {K:Act→World→Prop} {Q:Exit→Act→World→Prop} {E E':Env} {L L':Own} {Φ Φ':List Pers}
def A9j (P:Program) (n:Nat) (a:Array Oper) (o:Oper) (E:Env):Option Env :=
 match B0l a o E,X1 n o.dst with
 | some true,true=>match B2v P E o.op with
  | some v=>some (Env.put E o.dst v)
  | none=>none
 | some false,true=>some (Env.put E o.dst undef)
 | _,_=>none
def A4l (P:Program) (n:Nat) (a:Array Oper):Nat→Nat→Env→Option Env
 | 0,_,E=>some E
 | m+1,i,E=>match a[i]? with
  | some o=>match A9j P n a o E with
   | some E'=>A4l P n a m (i+1) E'
   | none=>none
  | none=>none
def B7p (E:Env):Env→Option Env
 | []=>some []
 | (t,_)::rest=>match E.lookup t,B7p E rest with
  | some v,some r=>some ((t,v)::r)
  | _,_=>none
theorem B5t:∀ {E' R:Env},B7p E E'=some R→S5 E R
 | [],R,h=>by simp [B7p] at h;subst h;trivial
 | (t,u)::rest,R,h=>by
  unfold B7p at h
  split at h
  ·rename_i v r a hr
   simp only [Option.some.injEq] at h;subst h
   exact ⟨a,B5t hr⟩
  ·cases h
def D7a (P:Program) (n:Nat) (a:Array Oper) (m i:Nat) (E E':Env):Option Env:=match A4l P n a m i E with | some R=>B7p R E' | none=>none
theorem G7.pure {o:Oper} {v:Value} (h:B2v P E o.op=some v):G7 P X o E L Φ v:=fun a w b _=>C5b h a w b
theorem G7.det {o:Oper} {v:Value} (h:G7 P X o E L Φ v):Det P X o E L Φ v:=.of_run h
theorem Det.pure {o:Oper} {v:Value} (h:B2v P E o.op=some v):Det P X o E L Φ v:=(G7.pure h).det
theorem D6v {b:Array Oper} {m:Nat}:∀ (k i:Nat) {E R:Env},A4l P n b k i E=some R→JI P n X b (i+k) m K Q R L Φ→JI P n X b i (k+m) K Q E L Φ
 | 0,i,E,R,h,k=>by simp [A4l] at h;subst h;rw [Nat.zero_add];exact k
 | c+1,i,E,R,h,k=>by
  unfold A4l at h
  split at h
  ·rename_i o e
   split at h
   ·rename_i E1 a
    have f:JI P n X b (i+1) (c+m) K Q E1 L Φ:=D6v c (i+1) h (by rw [Nat.add_right_comm];exact k)
    rw [Nat.add_right_comm]
    unfold A9j at a
    split at a
    ·rename_i hr d
     split at a
     ·rename_i v g
      simp only [Option.some.injEq] at a;subst a
      exact C8e e hr d (.pure g) f
     ·cases a
    ·rename_i hr d
     simp only [Option.some.injEq] at a;subst a
     exact D4b e hr d f
    ·cases a
   ·cases h
  ·cases h
def JD (P:Program) (n:Nat) (X:Cx) (b:Array Oper) (i m:Nat) (K:Act→World→Prop) (E:Env) (L:Own) (Φ:List Pers):Prop :=
 ∀ a,a.tmps.size=n→a.defers=X.marks→Has a E→wpQuiet P b (StW X L Φ) (fun c=>∀ w',StW X L Φ w'→K c w') ((b.toList.drop i).take m) a
theorem StW.drawn {w:World} (h:StW X L Φ w) (k:Nat):StW X L Φ {w with drawn:=k} :=
 let ⟨p,hp⟩:=h;⟨p,⟨hp.facts,hp.sub,hp.le,hp.dom,hp.own,hp.may,⟨hp.kept.os,hp.kept.tape,hp.kept.output,hp.kept.size,hp.kept.block⟩,hp.res⟩⟩
theorem C6y {ρ:Option Nat} {o:Oper} {a:Act} {C:World→Prop} {K:Act→Prop} {K':Act→World→Prop} {Q':Exit→Act→World→Prop} {w:World} (l:C w) (h:∀ a w',C w'→K a→K' a w')
  (s:o.quietIn (FW ρ) 0 P a C K):o.wpIn (FW ρ) 0 P a w K' Q':=by
 obtain ⟨v,y,n⟩:=s
 have b:=y w l
 unfold Oper.quietAtIn at b
 have g:B9s o.op=false:=by
  cases ho:o.op with
  | defer c =>
   exfalso
   have:(execOp a.eval o).run P w=Result.andThen ((resolve a.eval c o.type).run P w) fun d=>(pure (Next.defer d):Sem Next).run P:=by
    simp [execOp,ho]
    rfl
   rw [this] at b
   cases hr:(resolve a.eval c o.type).run P w with
   | ok d w'=>rw [hr] at b;exact b.elim
   | halt x w'=>rw [hr] at b;exact b.elim
  | _=>rfl
 refine ⟨fun _ _=>trivial,?_⟩
 rw [Oper.semAt_eq _ _ _ (fun c k=>by rw [k] at g;cases g)]
 generalize (execOp a.eval o).run P w=r at *
 cases r with
 | ok x w' =>
  cases x<;>simp only [Oper.quietUponIn] at b<;>simp only [Oper.uponIn]
  case value u =>
   obtain ⟨j,m⟩:=b
   rw [j,m]
   exact h _ _ l n
  case skip =>
   obtain ⟨j,m⟩:=b
   rw [j,← m]
   exact h _ _ l n
  case enter f args =>
   obtain ⟨j,t,k⟩:=b
   rw [j]
   exact ⟨t,k.mono fun e p ⟨q,i⟩=>by subst q;exact h _ _ i n⟩
 | halt x w'=>simp only [Oper.quietUponIn] at b
theorem C3a {ρ:Option Nat} {c:Array Oper} {C:World→Prop} {i:Nat} {a:Act} {K:Act→Prop} {K':Act→World→Prop} {Q':Exit→Act→World→Prop} {w:World} (d:C w) (h:∀ a w',C w'→K a→K' a w')
  (b:qOpIn (FW ρ) 0 P c C i K a):wpOpIn (FW ρ) 0 P c Q' i K' a w:=by
 unfold qOpIn at b
 unfold wpOpIn
 split
 ·rename_i e;simp only [e] at b;exact h _ _ d b
 ·rename_i o e
  simp only [e] at b
  obtain ⟨g,b⟩:=b
  split
  ·rename_i f;simp only [f,if_true] at b;exact C6y d h b
  ·rename_i f;simp only [f] at b;exact ⟨g w d,h _ _ d b⟩
theorem B5d {ρ:Option Nat} {md:Region.Mode} {d:Array Oper} {C:World→Prop} {R:Act→Prop} {Q':Exit→Act→World→Prop} (f:∀ a w,C w→R a→Q' .normal a w):∀ (c:Nat) (b:Array Bool) (a:Act) (w:World),C w →
  wpAnyQIn (FW ρ) 0 P md d C R c b a→wpAnyIn (FW ρ) 0 P md d Q' c b a w
 | 0,_,_,_,hw,h=>⟨h.1,f _ _ hw h.2⟩
 | c+1,_,_,_,hw,h=>⟨fun k=>f _ _ hw (h.1 k),fun i g=>C3a hw (fun j w' e=>B5d f c _ j w' e) (h.2 i g)⟩
theorem C4k {ρ:Option Nat} {c:Array Oper} {C:World→Prop} {R:Act→Prop}:∀ (l:List Oper) (a:Act),wpQuiet P c C R l a→wpQuietIn (FW ρ) 0 P c C R l a
 | [],a,h=>h
 | o::l,a,h=>by
  unfold wpQuiet at h
  unfold wpQuietIn
  refine ⟨fun _ _ _ _=>trivial,?_⟩
  split
  ·rename_i d
   rw [if_pos d] at h
   obtain ⟨v,g,i⟩:=h
   refine ⟨v,fun w e=>?_,C4k l _ i⟩
   have b:=g w e
   unfold Oper.quietAt at b
   unfold Oper.quietAtIn
   generalize (execOp a.eval o).run P w=r at *
   cases r with
   | ok x w' =>
    cases x with
    | value u=>exact b
    | skip=>exact b
    | enter f args=>exact ⟨b.1,A5p,B1s b.2⟩
    | _=>exact b.elim
   | halt x w'=>exact b.elim
  ·rename_i d
   rw [if_neg d] at h
   exact C4k l _ h
theorem C9n {ρ:Option Nat} {id:Nat} {b:Array Oper} {C:World→Prop} {R:Act→World→Prop} {a:Act} {w:World} {Q:Exit→Act→World→Prop} (g:P.follows .mixedOrders=true) (d:Region.lexB .any b=true) (f:C {w with drawn:=w.drawn+1})
  (h:wpQuiet P b C (fun c=>∀ w',C w'→R c w') b.toList a) (hR:∀ c w',R c w'→Q .normal c w'):(Code.region id b true).wpIn (FW ρ) 0 P Q a w:=by
 simp only [Region.lexB,Bool.and_eq_true] at d
 refine wpIn_region_any g (B5d (R:=fun c=>∀ w',C w'→R c w') (fun _ w' e h=>hR _ _ (h w' e)) _ _ _ _ f ?_)
 have:=wpAnyQIn_lex (F:=FW ρ) (n:=0) (C:=C) (md:=.any) d.1 b.toList 0 (Array.replicate b.size false) a oom (by simpa using d.2) (C4k _ _ h)
 simpa using this
theorem C8w {id:Nat} {b:Array Oper} (m:Nat) (f:P.follows .mixedOrders=true) (d:Region.lexB .any b=true) (e:b.size=m) (h:JD P n X b 0 m (Q .normal) E L Φ):J P n X (.region id b true) Q E L Φ :=
 fun a w c=>C9n (C:=StW X L Φ) f d (c.world.drawn _) (by
  have:=h a c.size c.defers c.has
  rwa [List.drop_zero,List.take_of_length_le (by simp [← e])] at this) (fun _ _ h=>h)
theorem B7i {c:Array Oper} {i:Nat} (h:JQ n X K E L Φ):JD P n X c i 0 K E L Φ:=fun a e d f=>by
 rw [List.take_zero];exact wpQuiet_nil fun w' b=>h a w' ⟨e,d,f,b⟩
theorem Has.putO {a:Act} (h:Has a E) {d:Option Nat} (b:X1 n d=true) (c:a.tmps.size=n) (v:Value):Has (a.put d v) (Env.put E d v):=by
 cases d with
 | none=>exact h
 | some d=>exact h.put (by rw [c];simpa [X1,Nat.blt_eq] using b) v
theorem C9e {b:Array Oper} {i m:Nat} {o:Oper} {v:Value} (g:b[i]?=some o) (k:B0l b o E=some true) (f:X1 n o.dst=true)
  (j:Det P X o E L Φ v) (h:JD P n X b (i+1) m K (Env.put E o.dst v) L Φ):JD P n X b i (m+1) K E L Φ:=by
 intro a e c d
 rw [A9h g,List.take_succ_cons]
 unfold wpQuiet
 rw [if_pos (A0o d k)]
 exact ⟨v,j a d,h _ (by rw [Act.put_size,e]) (by rw [Act.put_defers',c]) (d.putO f e v)⟩
theorem D4c {b:Array Oper} {i m:Nat} {o:Oper} (g:b[i]?=some o) (j:B0l b o E=some false) (f:X1 n o.dst=true)
  (h:JD P n X b (i+1) m K (Env.put E o.dst undef) L Φ):JD P n X b i (m+1) K E L Φ:=by
 intro a d c e
 rw [A9h g,List.take_succ_cons]
 unfold wpQuiet
 rw [if_neg (by rw [A0o e j];simp)]
 exact h _ (by rw [Act.put_size,d]) (by rw [Act.put_defers',c]) (e.putO f d undef)
theorem D7l {b:Array Oper} {m:Nat}:∀ (k i:Nat) {E R:Env},A4l P n b k i E=some R→JD P n X b (i+k) m K R L Φ→JD P n X b i (k+m) K E L Φ
 | 0,i,E,R,h,k=>by simp [A4l] at h;subst h;rw [Nat.zero_add];exact k
 | c+1,i,E,R,h,k=>by
  unfold A4l at h
  split at h
  ·rename_i o e
   split at h
   ·rename_i E1 a
    have f:JD P n X b (i+1) (c+m) K E1 L Φ:=D7l c (i+1) h (by rw [Nat.add_right_comm];exact k)
    rw [Nat.add_right_comm]
    unfold A9j at a
    split at a
    ·rename_i hr d
     split at a
     ·rename_i v g
      simp only [Option.some.injEq] at a;subst a
      exact C9e e hr d (.pure g) f
     ·cases a
    ·rename_i hr d
     simp only [Option.some.injEq] at a;subst a
     exact D4c e hr d f
    ·cases a
   ·cases h
  ·cases h
theorem D0y {b:Array Oper} {i m:Nat} (t:Nat) (g:Bool) (f:E.lookup t=some (.bool g)) (h:g=true→JD P n X b i m K ((t,.bool true)::E) L Φ) (j:g=false→JD P n X b i m K ((t,.bool false)::E) L Φ):JD P n X b i m K E L Φ:=by
 intro a e c d
 cases hg:g with
 | true=>exact h hg a e c (d.lit f hg)
 | false=>exact j hg a e c (d.lit f hg)
theorem B5n {b:Array Oper} {C:World→Prop} {R T:Act→Prop}:∀ (d c:List Oper) (a:Act),wpQuiet P b C R d a→(∀ a,R a→wpQuiet P b C T c a)→wpQuiet P b C T (d++c) a
 | [],_,a,h,hk=>hk a h
 | o::d,c,a,h,hk=>by
  simp only [List.cons_append,wpQuiet] at h ⊢
  have f:=fun a h=>B5n d c a h hk
  split
  ·rename_i e
   rw [if_pos e] at h
   obtain ⟨v,g,i⟩:=h
   exact ⟨v,g,f _ i⟩
  ·rename_i e
   rw [if_neg e] at h
   exact f _ h
theorem A8n {d:Array Oper} {C:World→Prop} {R:Act→World→Prop} (b:∀ w,¬ C w):∀ (l:List Oper) (a:Act),wpQuiet P d C (fun e=>∀ w',C w'→R e w') l a
 | [],_=>fun w' c=>absurd c (b w')
 | o::l,a=>by
  unfold wpQuiet
  split
  ·exact ⟨undef,fun w f=>absurd f (b w),A8n b l _⟩
  ·exact A8n b l _
theorem D6k {b:Array Oper} {i:Nat} (k m:Nat) (E1:Env) (h:JD P n X b i k (fun a _=>a.tmps.size=n∧a.defers=X.marks∧Has a E1) E L Φ)
  (o:JD P n X b (i+k) m K E1 L Φ):JD P n X b i (k+m) K E L Φ:=by
 intro a j d g
 by_cases hC:∃ w,StW X L Φ w
 ·obtain ⟨w,c⟩:=hC
  rw [List.take_add,List.drop_drop]
  exact B5n _ _ a (h a j d g) fun a hR=>by obtain ⟨e,l,f⟩:=hR w c;exact o a e l f
 ·exact A8n (fun w c=>hC ⟨w,c⟩) _ _
def TypeDesc.row:TypeDesc→Bool
 | .struct _ | .array _ _=>true
 | _=>false
def TyB (P:Program) (T sz:Nat) (agg:Bool):Bool :=
 match P.info? T,P.underlying T with
 | some i,some d=>i.size == sz&&(TypeDesc.row d == agg)
 | _,_=>false
structure Ty (P:Program) (T sz:Nat) (agg:Bool):Prop where
 ok:TyB P T sz agg=true
theorem Ty.size {T sz:Nat} {agg:Bool} (h:Ty P T sz agg) (w:World):(sizeOf T).run P w=.ok sz w:=by
 have:=h.ok
 unfold TyB at this
 split at this
 ·rename_i i d a b
  simp only [Bool.and_eq_true,beq_iff_eq] at this
  rw [A3m a,this.1]
 ·cases this
theorem Ty.agg {T sz:Nat} {agg:Bool} (h:Ty P T sz agg) (w:World):(isAgg T).run P w=.ok agg w:=by
 have:=h.ok
 unfold TyB at this
 split at this
 ·rename_i i d b a
  simp only [Bool.and_eq_true,beq_iff_eq] at this
  rw [B5z a,← this.2]
  cases d<;>rfl
 ·cases this
theorem Z4 (b o j:Nat):(⟨b,o,none⟩:Addr).add j=⟨b,o+j,none⟩:=by unfold Addr.add;split<;>simp_all
def A5k (h:Hp) (a:Addr) (us:List Value):Prop:=us=[]∨(a.spot=none∧∃ c T b,h a.block=some (.cells c T b)∧∀ j v,us[j]?=some v→c[a.off+j]?=some v)
def at_ (a:Addr) (us:List Value):Pers:=⟨fun h=>A5k h a us,fun d b=>match b with | .inl e=>.inl e | .inr ⟨h0,c,T,fr,h1,h2⟩=>.inr ⟨h0,c,T,fr,d _ _ h1,h2⟩⟩
theorem A5k.cell {h:Hp} {a:Addr} {us:List Value} (f:A5k h a us) {w:World} (e:h.sub w) {j:Nat} {v:Value} (d:us[j]?=some v):w.cell? (a.add j)=some v:=by
 obtain ⟨b,o,g⟩:=a
 obtain rfl | ⟨h0,c,T,fr,h1,h2⟩:=f
 ·simp at d
 simp only at h0 h1 h2
 subst h0
 rw [Z4]
 simp [World.cell?,e _ _ h1,h2 j v d]
theorem B3h {T sz:Nat} (c:Ty P T sz true) {a:Addr} {us:List Value} (e:us.length=sz) {w:World} (d:∀ j v,us[j]?=some v→w.cell? (a.add j)=some v) :
  (Instr.loadAt T (.pointer (some a))).run P w=.ok (.agg us.toArray) w:=by
 have b:=run_loadCells_list (P:=P) w a us d
 rw [e] at b
 simp [Instr.loadAt,Instr.sureAddr,loadVar,c.agg,c.size,b]
theorem B2s {T:Nat} (b:Ty P T 1 false) {a:Addr} {v:Value} {w:World} (c:w.cell? (a.add 0)=some v) :
  (Instr.loadAt T (.pointer (some a))).run P w=.ok v w:=by
 have:w.cell? a=some v:=by simpa [Addr.add] using c
 simp [Instr.loadAt,Instr.sureAddr,loadVar,b.agg,this]
abbrev bx (b:Nat) (cs:List Value) (T:Nat):Nat×Obj:=(b,.cells cs.toArray T (0,0))
theorem C4f {p:Hp} {w:World} (h:StH X L Φ p w) {i:Nat} {e:Nat×Obj} (a:L[i]?=some e):w.heap[e.1]?=some e.2:=(h.own.1 e (List.mem_of_getElem? a)).1
theorem B9l {p:Hp} {w:World} (h:StH X L Φ p w) {i b T:Nat} {cs:List Value} (a:L[i]?=some (bx b cs T)) (k:Nat):w.cell? ⟨b,k,none⟩=cs[k]?:=by
 have:=C4f h a
 simp only at this
 simp [World.cell?,this]
theorem F7 {o:Oper} {T sz b off TT:Nat} {x:Operand} {cs us:List Value} (k:Ty P T sz true) (d:o.op=.load T x) (e:ev E x=some (.pointer (some ⟨b,off,none⟩))) (i:Nat) (g:L[i]?=some (bx b cs TT))
  (l:(cs.drop off).take sz=us) (f:us.length=sz):G7 P X o E L Φ (.agg us.toArray):=.of_run fun m w h ⟨p,c⟩=>by
 have:(Instr.loadAt T (.pointer (some ⟨b,off,none⟩))).run P w=.ok (.agg us.toArray) w:=B3h k f fun j v a=>by
  rw [Z4,B9l c g,← a,← l,List.getElem?_take,if_pos,List.getElem?_drop]
  have:=(List.getElem?_eq_some_iff.1 a).1
  omega
 simp [execOp,d,C4 h e,this]
theorem A7 {o:Oper} {T b off TT:Nat} {x:Operand} {cs:List Value} {v:Value} (g:Ty P T 1 false) (c:o.op=.load T x) (d:ev E x=some (.pointer (some ⟨b,off,none⟩))) (i:Nat) (e:L[i]?=some (bx b cs TT))
  (h:cs[off]?=some v):G7 P X o E L Φ v:=.of_run fun j w f ⟨p,a⟩=>by
 have:(Instr.loadAt T (.pointer (some ⟨b,off,none⟩))).run P w=.ok v w:=B2s g (by rw [Z4,B9l a e];simpa using h)
 simp [execOp,c,C4 f d,this]
end
end Go.Fen
set_option linter.unusedVariables false
set_option linter.unusedSimpArgs false
namespace Go.Fen
open Go Go.RowKit
section
variable {P:Program} {n:Nat} {X:Cx} {K:Act→World→Prop} {Q:Exit→Act→World→Prop} {E E':Env} {L L':Own} {Φ Φ':List Pers}
theorem A9w (w:World) (o:Obj) (k:Nat):(w.alloc o).heap[k]?=if k=w.heap.size then some o else w.heap[k]?:=by
 show (w.heap.push o)[k]?=_
 rw [Array.getElem?_push]
theorem Hp.lt {p:Hp} {w:World} (h:p.sub w) {b:Nat} {o:Obj} (e:p b=some o):b<w.heap.size:=(Array.getElem?_eq_some_iff.1 (h b o e)).1
theorem D5g {p:Hp} {w:World} (h:p.sub w) (o:Obj):p.sub (w.alloc o):=fun b u e=>by
 rw [A9w,if_neg (Nat.ne_of_lt (Hp.lt h e))];exact h b u e
theorem A0u.lt {p:Hp} {w:World} (h:A0u L p w) {e:Nat×Obj} (a:e ∈ L):e.1<w.heap.size:=(Array.getElem?_eq_some_iff.1 (h.1 e a).1).1
theorem A0u.alloc {p:Hp} {w:World} (h:A0u L p w) (b:p.sub w) (o:Obj):A0u ((w.heap.size,o)::L) p (w.alloc o):=by
 constructor
 ·intro e a
  rcases List.mem_cons.1 a with rfl | a
  ·refine ⟨by rw [A9w,if_pos rfl],?_⟩
   cases hp:p w.heap.size with
   | none=>rfl
   | some u=>exact absurd (Hp.lt b hp) (Nat.lt_irrefl _)
  ·have:=h.1 e a
   exact ⟨by rw [A9w,if_neg (Nat.ne_of_lt (h.lt a))];exact this.1,this.2⟩
 ·simp only [List.map_cons,List.nodup_cons]
  refine ⟨fun c=>?_,h.2⟩
  obtain ⟨e,a,d⟩:=List.mem_map.1 c
  have:=h.lt a
  omega
theorem KeptBut.alloc {M:List Nat} {a w:World} (h:KeptBut M a w) (o:Obj):KeptBut M a (w.alloc o) :=
 ⟨h.os,h.tape,h.output,by have:=h.size;simp;omega,fun k c b=>by rw [A9w,if_neg (by have:=h.size;omega)];exact h.block k c b⟩
theorem opx {p:Prop} (h:p:=by omega):p:=h
theorem StW.alloc {w:World} (h:StW X L Φ w) (o:Obj):StW X ((w.heap.size,o)::L) Φ (w.alloc o) :=
 let ⟨p,hp⟩:=h
 ⟨p,⟨hp.facts,D5g hp.sub o,hp.le,hp.dom,hp.own.alloc hp.sub o,fun e a=>by
  rcases List.mem_cons.1 a with rfl | a
  ·exact .inr hp.kept.size
  ·exact hp.may e a,hp.kept.alloc o,fun d c=>by
  obtain ⟨b,j,i,f⟩:=hp.res d c
  have g:=(Array.getElem?_eq_some_iff.1 b).1
  refine ⟨by rw [A9w,if_neg opx];exact b,j,fun e a=>?_,f⟩
  rcases List.mem_cons.1 a with rfl | a
  ·simp only;omega
  ·exact i e a⟩⟩
def blk (b:Nat) (o:Obj):Pers:=⟨fun h=>h b=some o,fun a e=>a _ _ e⟩
theorem X7 {o:Oper} {T:Nat} {x:Operand} {v:Value} {cs:List Value} (c:o.op=.box T x) (e:ev E x=some v) (g:v.cells=cs.toArray) :
  Tri P n X o E L Φ Nat (fun b=>.pointer (some ⟨b,0,none⟩)) (fun b=>bx b cs T::L) (fun _=>Φ):=by
 intro a w K Q d f
 have hr:(execOp a.eval o).run P w=.ok (.value (.pointer (some ⟨w.heap.size,0,none⟩))) (w.alloc (.cells cs.toArray T (0,0))):=by
  simp [execOp,c,C4 d.has e,Instr.box,newVar,newRow,g]
 refine A7c (by rw [c];rfl) ?_
 unfold Oper.wp
 rw [hr]
 exact f w.heap.size _ (d.world.alloc _)
structure Zero (P:Program) (T:Nat) (cs:List Value):Prop where
 ok:((P.info? T).bind (·.zero)).map (·.cells)=some cs.toArray
theorem Zero.run {T:Nat} {cs:List Value} (h:Zero P T cs) (w:World):∃ v,(zeroValue T).run P w=.ok v w∧v.cells=cs.toArray:=by
 obtain ⟨v,a,d⟩:=Option.map_eq_some_iff.1 h.ok
 obtain ⟨i,c,b⟩:=Option.bind_eq_some_iff.1 a
 exact ⟨v,by simp [zeroValue,A7m c,b],d⟩
theorem V7 {o:Oper} {T:Nat} {cs:List Value} (e:Zero P T cs) (c:o.op=.alloc T) :
  Tri P n X o E L Φ Nat (fun b=>.pointer (some ⟨b,0,none⟩)) (fun b=>bx b cs T::L) (fun _=>Φ):=by
 intro a w K Q g f
 obtain ⟨v,d,h⟩:=e.run w
 have hr:(execOp a.eval o).run P w=.ok (.value (.pointer (some ⟨w.heap.size,0,none⟩))) (w.alloc (.cells cs.toArray T (0,0))):=by
  simp [execOp,c,Instr.alloc,d,newVar,newRow,h]
 refine A7c (by rw [c];rfl) ?_
 unfold Oper.wp
 rw [hr]
 exact f w.heap.size _ (g.world.alloc _)
theorem C4e {i b:Nat} {o u:Obj} (c:L[i]?=some (b,o)):(L.set i (b,u)).map Prod.fst=L.map Prod.fst:=by
 apply List.ext_getElem?
 intro k
 simp only [List.getElem?_map,List.getElem?_set]
 by_cases hk:i=k
 ·subst hk
  obtain ⟨a,d⟩:=List.getElem?_eq_some_iff.1 c
  simp [a,d]
 ·simp [hk]
theorem B7l (e:(L.map Prod.fst).Nodup) {i k b:Nat} {o u:Obj} (c:L[i]?=some (b,o)) (d:L[k]?=some (b,u)):i=k:=by
 have a:(L.map Prod.fst)[i]?=some b:=by simp [c]
 have f:(L.map Prod.fst)[k]?=some b:=by simp [d]
 exact (List.getElem?_inj (List.getElem?_eq_some_iff.1 a).1 e).1 (a.trans f.symm)
theorem A0u.set {p:Hp} {w w':World} (h:A0u L p w) {i b:Nat} {o u:Obj} (d:L[i]?=some (b,o)) (l:w'.heap[b]?=some u) (c:∀ k,k≠b→w'.heap[k]?=w.heap[k]?):A0u (L.set i (b,u)) p w':=by
 constructor
 ·intro e g
  obtain ⟨k,a⟩:=List.mem_iff_getElem?.1 g
  rw [List.getElem?_set] at a
  by_cases hik:i=k
  ·subst hik
   have:=(List.getElem?_eq_some_iff.1 d).1
   simp [this] at a
   subst a
   exact ⟨l,(h.1 _ (List.mem_of_getElem? d)).2⟩
  ·rw [if_neg hik] at a
   obtain ⟨j,o'⟩:=e
   have f:j≠b:=fun e=>hik (B7l h.2 d (e▸a))
   have:=h.1 _ (List.mem_of_getElem? a)
   exact ⟨by rw [c _ f];exact this.1,this.2⟩
 ·rw [C4e d];exact h.2
theorem StW.set {w w':World} (h:StW X L Φ w) {i b:Nat} {o u:Obj} (m:L[i]?=some (b,o)) (hb:w'.heap[b]?=some u) (a:∀ k,k≠b→w'.heap[k]?=w.heap[k]?)
  (v:w'.os=w.os) (z:w'.tape=w.tape) (j:w'.output=w.output) (s:w'.heap.size=w.heap.size):StW X (L.set i (b,u)) Φ w' :=
 let ⟨p,hp⟩:=h
 have g:=List.mem_of_getElem? m
 ⟨p,⟨hp.facts,fun k o' e=>by
   have:k≠b:=fun q=>by subst q;rw [(hp.own.1 _ g).2] at e;cases e
   rw [a _ this];exact hp.sub k o' e,hp.le,hp.dom,hp.own.set m hb a,fun e r=>by
   obtain ⟨k,c⟩:=List.mem_iff_getElem?.1 r
   rw [List.getElem?_set] at c
   by_cases hik:i=k
   ·subst hik
    have:=(List.getElem?_eq_some_iff.1 m).1
    simp [this] at c
    subst c
    exact hp.may (b,o) g
   ·rw [if_neg hik] at c
    exact hp.may _ (List.mem_of_getElem? c),
  ⟨v.trans hp.kept.os,z.trans hp.kept.tape,j.trans hp.kept.output,by rw [s];exact hp.kept.size,fun k c l=>by
   have n:k≠b:=by
    rintro rfl
    rcases hp.may (k,o) g with f | f
    ·exact l f
    ·simp only at f;omega
   rw [a k n];exact hp.kept.block k c l⟩,fun d y=>by
   obtain ⟨f,h2,t,x⟩:=hp.res d y
   refine ⟨by rw [a d.1 (fun q=>t _ g q.symm)];exact f,h2,fun e r=>?_,x⟩
   obtain ⟨k,c⟩:=List.mem_iff_getElem?.1 r
   rw [List.getElem?_set] at c
   by_cases hik:i=k
   ·subst hik
    have:=(List.getElem?_eq_some_iff.1 m).1
    simp [this] at c
    subst c
    exact t (b,o) g
   ·rw [if_neg hik] at c
    exact t _ (List.mem_of_getElem? c)⟩⟩
def A0q (cs us:List Value) (off:Nat):List Value:=cs.take off++us++cs.drop (off+us.length)
theorem F2 {o:Oper} {T sz b off TT:Nat} {agg:Bool} {x y:Operand} {v:Value} {cs us cs':List Value} (hT:Ty P T sz agg) (l:o.op=.store T x y) (t:ev E x=some (.pointer (some ⟨b,off,none⟩))) (z:ev E y=some v)
  (i:Nat) (r:L[i]?=some (bx b cs TT)) (e:v.cells=us.toArray) (q:us.length=sz) (hb:us.all (·.oneCell')=true) (u:A0q cs us off=cs') (hl:Nat.ble (off+sz) cs.length=true) :
  Tri P n X o E L Φ Unit (fun _=>undef) (fun _=>L.set i (bx b cs' TT)) (fun _=>Φ):=by
 intro a w K Q d h
 obtain ⟨p,s⟩:=d.world
 have m:w.heap[b]?=some (.cells cs.toArray TT (0,0)):=C4f s r
 have j:off+us.length≤cs.length:=by rw [q];exact Nat.le_of_ble_eq_true hl
 have g:=run_storeCells_at P b off TT us 0 cs.toArray w m (by simpa using j) (fun v e=>by simpa using List.all_eq_true.1 hb v e)
 have hr:(execOp a.eval o).run P w=.ok .skip (w.setRow b cs'.toArray):=by
  have f:(storeVar T ⟨b,off,none⟩ v).run P w=.ok () (w.setRow b cs'.toArray):=by
   have c:(storeCells ⟨b,off,none⟩ us).run P w=.ok () (w.setRow b cs'.toArray):=by rw [g,← u];simp [A0q]
   simp only [storeVar,Sem.run_bind,hT.size,Result.andThen_ok,e,List.size_toArray,q,ne_eq,not_true_eq_false,if_false,c]
  simp [execOp,l,C4 d.has t,C4 d.has z,Instr.storeAt,Instr.sureAddr,f]
 refine A7c (by rw [l];rfl) ?_
 unfold Oper.wp
 rw [hr]
 refine h () _ (d.world.set r (setRow_heap w b _ _ TT (0,0) m) (fun k h=>setRow_other w b k _ h) rfl rfl rfl oom)
def D8q {α:Type}:List Bool→List α→List α
 | true::m,x::xs=>x::D8q m xs
 | false::m,_::xs=>D8q m xs
 | _,_=>[]
theorem C0g {α:Type}:∀ (m:List Bool) (xs:List α),(D8q m xs).Sublist xs
 | true::m,x::xs=>(C0g m xs).cons_cons x
 | false::m,x::xs=>(C0g m xs).cons x
 | [],_=>List.nil_sublist _
 | true::_,[]=>List.nil_sublist _
 | false::_,[]=>List.nil_sublist _
theorem mk {α:Type} {L L':List α} (m:List Bool) (h:D8q m L=L'):L'.Sublist L:=h▸C0g m L
theorem A0u.sub {p:Hp} {w:World} (h:A0u L p w) (a:L'.Sublist L):A0u L' p w:=⟨fun e b=>h.1 e (a.subset b),(a.map Prod.fst).nodup h.2⟩
theorem StW.sub {w:World} (h:StW X L Φ w) (a:L'.Sublist L):StW X L' Φ w :=
 let ⟨p,hp⟩:=h;⟨p,⟨hp.facts,hp.sub,hp.le,hp.dom,hp.own.sub a,fun e b=>hp.may e (a.subset b),hp.kept,fun d c=>let ⟨h1,h2,h3,h4⟩:=hp.res d c;⟨h1,h2,fun e b=>h3 e (a.subset b),h4⟩⟩⟩
theorem D6a {α:Type} {xs ys:List α} {is:List Nat} (h:is.mapM (xs[·]?)=some ys):∀ y ∈ ys,y ∈ xs:=by
 induction is generalizing ys with
 | nil=>simp at h;subst h;intro y a;cases a
 | cons i is ih =>
  simp only [List.mapM_cons,Option.bind_eq_bind,Option.bind_eq_some_iff] at h
  obtain ⟨v,c,us,b,h⟩:=h
  simp only [Option.pure_def,Option.some.injEq] at h
  subst h
  intro y a
  rcases List.mem_cons.1 a with rfl | a
  ·exact List.mem_of_getElem? c
  ·exact ih b y a
def B0 (Φ Φ':List Pers):Prop:=∀ p:Hp,(∀ q ∈ Φ,q.p p)→∀ q ∈ Φ',q.p p
theorem B0.pick (is:List Nat) (h:is.mapM (Φ[·]?)=some Φ'):B0 Φ Φ':=fun _ b q a=>b q (D6a h q a)
theorem B0.nil:B0 Φ []:=fun _ _ _ h=>by cases h
theorem fn0:B0 Φ []:=B0.nil
theorem B0.refl:B0 Φ Φ:=fun _ h=>h
theorem B0.cons {q:Pers} (c:∀ p:Hp,(∀ q ∈ Φ,q.p p)→q.p p) (h:B0 Φ Φ'):B0 Φ (q::Φ'):=fun p b d a=>by
 rcases List.mem_cons.1 a with rfl | a
 ·exact c p b
 ·exact h p b d a
theorem StW.foll {w:World} (h:StW X L Φ w) (a:B0 Φ Φ'):StW X L Φ' w:=let ⟨p,hp⟩:=h;⟨p,⟨a p hp.facts,hp.sub,hp.le,hp.dom,hp.own,hp.may,hp.kept,hp.res⟩⟩
theorem StW.freeze {w:World} (h:StW X L Φ w) {i b:Nat} {o:Obj} (n:L[i]?=some (b,o)):StW X (L.eraseIdx i) (blk b o::Φ) w:=by
 obtain ⟨p,a⟩:=h
 have r:=List.mem_of_getElem? n
 have t:=a.own.1 _ r
 have l:∀ e ∈ L.eraseIdx i,e.1≠b:=by
  intro e f j
  obtain ⟨k,c⟩:=List.mem_iff_getElem?.1 f
  rw [List.getElem?_eraseIdx] at c
  obtain ⟨y,x⟩:=e
  simp only at j
  subst j
  split at c
  ·have:=B7l a.own.2 n c;omega
  ·have:=B7l a.own.2 n c;omega
 refine ⟨fun k=>if k=b then some o else p k,⟨?_,?_,?_,?_,?_,?_,a.kept,fun d v=>let ⟨h1,h2,h3,h4⟩:=a.res d v;⟨h1,by simp only [if_neg (fun g:d.1=b=>h3 _ r g.symm)];exact h2,fun e f=>h3 e ((List.eraseIdx_sublist _ _).subset f),h4⟩⟩⟩
 ·have s:p.le (fun k=>if k=b then some o else p k):=fun k u e=>by
   have:k≠b:=fun g=>by subst g;rw [t.2] at e;cases e
   simp only [if_neg this];exact e
  intro q m
  rcases List.mem_cons.1 m with rfl | m
  ·simp [blk]
  ·exact q.mono s (a.facts q m)
 ·intro k u e
  by_cases c:k=b
  ·subst c;simp at e;subst e;exact t.1
  ·simp only [if_neg c] at e;exact a.sub k u e
 ·intro k u e
  have:=a.le k u e
  have c:k≠b:=fun g=>by subst g;rw [t.2] at this;cases this
  simp only [if_neg c];exact this
 ·intro k c
  by_cases hkb:k=b
  ·subst hkb;exact .inr (a.may _ r)
  ·simp only [if_neg hkb] at c;exact a.dom k c
 ·exact ⟨fun e f=>⟨((a.own.sub (List.eraseIdx_sublist _ _)).1 e f).1,by simp only [if_neg (l e f)];exact (a.own.1 e ((List.eraseIdx_sublist _ _).subset f)).2⟩,(a.own.sub (List.eraseIdx_sublist _ _)).2⟩
 ·exact fun e f=>a.may e ((List.eraseIdx_sublist _ _).subset f)
end
end Go.Fen
set_option linter.unusedVariables false
set_option linter.unusedSimpArgs false
namespace Go.Fen
open Go Go.RowKit
structure HasBody (P:Program) (f:FuncId):Prop where
 ok : ((P.funcs[f]?).map fun fn => !fn.body.isNone && !(fn.name == "runtime.NumGoroutine")) = some true
abbrev cx (w:World) (h:Hp) (M:List Nat):Cx:=⟨w,h,M,none,[]⟩
def Con (P:Program) (f:FuncId) (args:List Value) (L0:Own) (Φ0:List Pers) (α:Type) (val:α→Value) (L1:α→Own) (Φ1:α→List Pers):Prop :=
 HasBody P f∧∀ (w:World) (h:Hp),(∀ q ∈ Φ0,q.p h)→h.sub w→A0u L0 h w →
  Calls P f args.toArray w fun e w'=>∃ x,e=.returned (val x)∧StW (cx w h (L0.map Prod.fst)) (L1 x) (Φ1 x) w'
abbrev G3 (P:Program) (f:FuncId) (args:List Value) (Φ0:List Pers) (v:Value):Prop:=Con P f args [] Φ0 Unit (fun _=>v) (fun _=>[]) (fun _=>[])
section
variable {P:Program} {n:Nat} {X:Cx} {K:Act→World→Prop} {Q:Exit→Act→World→Prop} {E E':Env} {L L':Own} {Φ Φ':List Pers}
def Res (P:Program) (n:Nat) (X:Cx) (b:Func) (E:Env) (L:Own) (Φ:List Pers) (v:Value):Prop:=∀ a w,St n X E L Φ a w→(results b a.tmps).run P w=.ok v w
def C4c (a:Array Value):ResultVar→Sem Value
 | .tmp t=>pure (a.getD t undef)
 | .cell t T=>do loadVar T (← asAddr (a.getD t undef))
theorem A9y (b:Func) (a:Array Value):results b a=(do
  let vs ← b.results.mapM (C4c a)
  pure (if h:vs.size=1 then vs[0] else .tuple vs)):=by
 unfold results
 rfl
def B9e (P:Program) (n:Nat) (X:Cx) (r:ResultVar) (E:Env) (L:Own) (Φ:List Pers) (v:Value):Prop:=∀ a w,St n X E L Φ a w→(C4c a.tmps r).run P w=.ok v w
theorem B9 {t:Nat} {v:Value} (h:E.lookup t=some v):B9e P n X (.tmp t) E L Φ v:=fun a w b=>by
 have:=b.has _ _ h
 simp [C4c,this]
theorem Has.getD {a:Act} (b:Has a E) {t:Nat} {v:Value} (h:E.lookup t=some v):a.tmps.getD t undef=v:=by
 have:=b _ _ h
 simp [this]
theorem D4 {t T sz b:Nat} {off TT:Nat} {cs us:List Value} (l:Ty P T sz true) (h:E.lookup t=some (.pointer (some ⟨b,off,none⟩))) (i:Nat) (k:L[i]?=some (bx b cs TT)) (m:(cs.drop off).take sz=us) (g:us.length=sz) :
  B9e P n X (.cell t T) E L Φ (.agg us.toArray):=fun a w e=>by
 obtain ⟨p,f⟩:=e.world
 have hr:(Instr.loadAt T (.pointer (some ⟨b,off,none⟩))).run P w=.ok (.agg us.toArray) w:=B3h l g fun j v d=>by
  rw [Z4,B9l f k,← d,← m,List.getElem?_take,if_pos,List.getElem?_drop]
  have:=(List.getElem?_eq_some_iff.1 d).1
  omega
 have c:(loadVar T ⟨b,off,none⟩).run P w=.ok (.agg us.toArray) w:=by simpa [Instr.loadAt,Instr.sureAddr] using hr
 simp only [C4c,e.has.getD h,asAddr,Sem.run_bind,Sem.run_pure,Result.andThen_ok,c]
theorem D1x {t T b:Nat} {off TT:Nat} {cs:List Value} {v:Value} (g:Ty P T 1 false) (h:E.lookup t=some (.pointer (some ⟨b,off,none⟩))) (i:Nat) (f:L[i]?=some (bx b cs TT)) (j:cs[off]?=some v) :
  B9e P n X (.cell t T) E L Φ v:=fun a w d=>by
 obtain ⟨p,e⟩:=d.world
 have hr:(Instr.loadAt T (.pointer (some ⟨b,off,none⟩))).run P w=.ok v w:=B2s g (by rw [Z4,B9l e f];simpa using j)
 have c:(loadVar T ⟨b,off,none⟩).run P w=.ok v w:=by simpa [Instr.loadAt,Instr.sureAddr] using hr
 simp only [C4c,d.has.getD h,asAddr,Sem.run_bind,Sem.run_pure,Result.andThen_ok,c]
theorem A1a {b:Func} (c:b.results=#[]):Res P n X b E L Φ (.tuple #[]):=fun a w _=>by simp [A9y,c]
theorem O3 {b:Func} {r:ResultVar} {v:Value} (c:b.results=#[r]) (h:B9e P n X r E L Φ v):Res P n X b E L Φ v:=fun a w d=>by
 simp [A9y,c,h a w d]
theorem U6 {b:Func} {r s:ResultVar} {v u:Value} (d:b.results=#[r,s]) (h:B9e P n X r E L Φ v) (k:B9e P n X s E L Φ u):Res P n X b E L Φ (.tuple #[v,u]):=fun a w c=>by
 simp [A9y,d,h a w c,k a w c]
theorem E2x {c:Func} {r s t:ResultVar} {v u x:Value} (d:c.results=#[r,s,t]) (h:B9e P n X r E L Φ v) (k:B9e P n X s E L Φ u) (l:B9e P n X t E L Φ x):Res P n X c E L Φ (.tuple #[v,u,x]):=fun a w b=>by
 simp [A9y,d,h a w b,k a w b,l a w b]
def C8l (P:Program) (X:Cx) (a:Func) (α:Type) (val:α→Value) (L1:α→Own) (Φ1:α→List Pers):Exit→Act→World→Prop :=
 bodyPostM (FW none) 0 P a fun e w'=>∃ x,e=.returned (val x)∧StW X (L1 x) (Φ1 x) w'
theorem D0p {f:FuncId} {g:Func} {c:Code} {args:List Value} {L0:Own} {Φ0:List Pers} {α:Type} {val:α→Value} {L1:α→Own} {Φ1:α→List Pers}
  (q : P.funcs[f]? = some g) (i : g.body = some c) (j : (g.name == "runtime.NumGoroutine") = false) (hn : g.ntmps = n) (l : Nat.ble args.length n = true) (E0 : Env) (hE : S5 ((List.range args.length).zip args) E0)
  (h:∀ X:Cx,X.M=L0.map Prod.fst→X.rho=none→X.D=[]→J P n X c (C8l P X g α val L1 Φ1) E0 L0 Φ0):Con P f args L0 Φ0 α val L1 Φ1:=by
 refine ⟨⟨by simp [q,i,j]⟩,fun w p u hs x=>?_⟩
 have s:args.length≤n:=Nat.le_of_ble_eq_true l
 refine (callsIn_wide (n:=0)).1 (callsIn_of_wp_marks (F:=Fence.wide) q i trivial (h (cx w p (L0.map Prod.fst)) rfl rfl rfl _ w ⟨?_,rfl,?_,p,⟨u,hs,Hp.le_refl p,fun b i=>.inl i,x,fun e z=>.inl (List.mem_map_of_mem z),KeptBut.refl _ w,fun d hd=>by cases hd⟩⟩))
 ·simp [hn];omega
 ·have r:Has {tmps:=args.toArray++Array.replicate (g.ntmps - args.toArray.size) undef,defers:=[]} ((List.range args.length).zip args):=by
   intro t v e
   have hm:∀ (xs:List Value) (k:Nat),((List.range' k xs.length).zip xs).lookup t=some v→k≤t∧xs[t - k]?=some v:=by
    intro xs
    induction xs with
    | nil=>intro k a;simp at a
    | cons y ys ih =>
     intro k a
     rw [List.length_cons,List.range'_succ,List.zip_cons_cons] at a
     by_cases ht:t=k
     ·subst ht;simp [List.lookup] at a;simp [a]
     ·have:(t == k)=false:=by simpa using ht
      simp only [List.lookup,this] at a
      obtain ⟨r,m⟩:=ih (k+1) a
      refine ⟨by omega,?_⟩
      rw [show t - k=(t - (k+1))+1 by omega,List.getElem?_cons_succ]
      exact m
   rw [List.range_eq_range'] at e
   obtain ⟨_,m⟩:=hm args 0 e
   have o:args[t]?=some v:=by simpa using m
   have:=(List.getElem?_eq_some_iff.1 o).1
   rw [Array.getElem?_append_left (by simpa using this)]
   simpa using o
  exact r.weaken (Q7 hE)
def Cx.wd (X:Cx) (ds:List (Nat×Obj)):Cx:=⟨X.w0,X.h0,X.M,X.rho,ds⟩
theorem StW.take {w:World} {d:Nat×Obj} {ds:List (Nat×Obj)} (n:d.1 ∉ ds.map Prod.fst) (o:Obj) (h:StW (X.wd (d::ds)) L Φ w):StW (X.wd ds) L Φ (w.putObj d.1 o):=by
 obtain ⟨p,a⟩:=h
 obtain ⟨t,s,r,f⟩:=a.res d (List.mem_cons_self ..)
 refine ⟨p,⟨a.facts,fun k o e=>?_,a.le,a.dom,⟨fun e g=>⟨?_,(a.own.1 e g).2⟩,a.own.2⟩,a.may,⟨a.kept.os,a.kept.tape,a.kept.output,by rw [World.putObj_size];exact a.kept.size,fun k i l=>?_⟩,fun j b=>?_⟩⟩
 ·have:k≠d.1:=fun c=>by subst c;rw [s] at e;cases e
  rw [World.putObj_heap_other this];exact a.sub k o e
 ·rw [World.putObj_heap_other (r e g)];exact (a.own.1 e g).1
 ·have:k≠d.1:=fun c=>by
   subst c
   rcases f with f | f
   ·have:X.w0.heap.size≤d.1:=f
    have:d.1<X.w0.heap.size:=i
    omega
   ·exact l f
  rw [World.putObj_heap_other this];exact a.kept.block k i l
 ·have:j.1≠d.1:=fun c=>n (c▸List.mem_map_of_mem b)
  obtain ⟨q,m⟩:=a.res j (List.mem_cons_of_mem _ b)
  exact ⟨by rw [World.putObj_heap_other this];exact q,m⟩
theorem A8r {f:Func} {a:Array Value} {R:Ending→World→Prop}:∀ (ds:List (Nat×Obj)),(ds.map Prod.fst).Nodup→(∀ d ∈ ds,d.2=.deferred (some []))→∀ w,StW (X.wd ds) L Φ w →
  (∀ w',StW (X.wd []) L Φ w'→∃ v,(results f a).run P w'=.ok v w'∧R (.returned v) w')→LeavesInM (FW none) 0 P f a R (ds.map (B7g ·.1)) .returning w
 | [],_,_,w,hw,k=>k w hw
 | d::ds,hn,ho,w,hw,k=>by
  rw [List.map_cons] at hn
  obtain ⟨g,i⟩:=List.nodup_cons.1 hn
  obtain ⟨p,c⟩:=hw
  have b:=(c.res d (List.mem_cons_self ..)).1
  rw [ho d (List.mem_cons_self ..)] at b
  exact ⟨by simp,.inl ⟨d.1,_,rfl,run_takeDeferred b,A8r ds i (fun e h=>ho e (List.mem_cons_of_mem _ h)) _ (StW.take g _ ⟨p,c⟩) k⟩⟩
theorem D1g {X':Cx} {a:Act} {w:World} {j:Func} {α:Type} {val:α→Value} {L1:α→Own} {Φ1:α→List Pers} {v:Value} (hX:X'=X.wd X'.D) (g:X=X.wd []) (b:X.rho=none) (c:(X'.D.map Prod.fst).Nodup∧∀ d ∈ X'.D,d.2=.deferred (some [])) (hr:Res P n X j E L Φ v) (x:α) (k:val x=v) (l:List.Sublist (L1 x) L) (hΦ:B0 Φ (Φ1 x))
  (i:St n X' E L Φ a w):LeavesInM (FW none) 0 P j a.tmps (fun e w'=>∃ x,e=.returned (val x)∧StW X (L1 x) (Φ1 x) w') a.defers .returning w:=by
 have m:X'.marks=X'.D.map (B7g ·.1):=by rw [hX];unfold Cx.marks Cx.wd;simp only [b]
 rw [i.defers,m]
 refine A8r (X:=X) (L:=L) (Φ:=Φ) X'.D c.1 c.2 w (hX▸i.world) fun w' f=>⟨v,?_,x,by rw [k],?_⟩
 ·rw [g] at hr
  exact hr {a with defers:=[]} w' ⟨i.size,by unfold Cx.marks Cx.wd;simp only [b];rfl,i.has,f⟩
 ·rw [g];exact (f.sub l).foll hΦ
theorem B5b {X':Cx} {f:Func} {α:Type} {val:α→Value} {L1:α→Own} {Φ1:α→List Pers} {v:Value} (hX:X'=X.wd X'.D) (b:X.rho=none∧X.D=[]) (c:(X'.D.map Prod.fst).Nodup∧∀ d ∈ X'.D,d.2=.deferred (some [])) (hr:Res P n X f E L Φ v) (x:α) (i:val x=v) (j:List.Sublist (L1 x) L) (hΦ:B0 Φ (Φ1 x)) :
  JQ n X' (C8l P X f α val L1 Φ1 .ret) E L Φ:=fun a w k=>D1g hX (by obtain ⟨m,l,M,r,D⟩:=X;obtain ⟨e,g⟩:=b;simp only at e g;subst e g;rfl) b.1 c hr x i j hΦ k
theorem D1i {X':Cx} {f:Func} {α:Type} {val:α→Value} {L1:α→Own} {Φ1:α→List Pers} {v:Value} (hX:X'=X.wd X'.D) (b:X.rho=none∧X.D=[]) (c:(X'.D.map Prod.fst).Nodup∧∀ d ∈ X'.D,d.2=.deferred (some [])) (hr:Res P n X f E L Φ v) (x:α) (i:val x=v) (j:List.Sublist (L1 x) L) (hΦ:B0 Φ (Φ1 x)) :
  JQ n X' (C8l P X f α val L1 Φ1 .normal) E L Φ:=fun a w k=>D1g hX (by obtain ⟨m,l,M,r,D⟩:=X;obtain ⟨e,g⟩:=b;simp only at e g;subst e g;rfl) b.1 c hr x i j hΦ k
theorem A0p {f:FuncId} (h:HasBody P f) (args:Array Value) (w:World):(callFunc f args).run P w=.ok (.enter f args) w:=by
 have:=h.ok
 obtain ⟨e,d,a⟩:=Option.map_eq_some_iff.1 this
 simp only [Bool.and_eq_true,Bool.not_eq_true'] at a
 obtain ⟨b,c⟩:=a
 simp only [callFunc,Sem.run_bind,run_program,Result.andThen_ok,d,c,b,Bool.false_eq_true,if_false]
 rfl
theorem C5r {o:Oper} {c:Call} {d:Operand} {k:FuncId} {first cap:Array Value} {f:List Value} {a:Act} (e:Has a E) (g:o.op=.call c) (h:c.callee=.value d) (i:ev E d=some (.func (.func k) first cap))
  (b:c.args.toList.mapM (ev E)=some f) (j:HasBody P k) (w:World):(execOp a.eval o).run P w=.ok (.enter k (first++f.toArray++cap)) w:=by
 simp [execOp,g,resolve,h,C4 e i,Deferred.ofValue,A7b e b,invoke,A0p j]
theorem KeptBut.of_call {M:List Nat} {M0:List Nat} {a w w':World} (h:KeptBut M a w) (k:KeptBut M0 w w') (g:∀ b ∈ M0,b ∈ M∨a.heap.size≤b):KeptBut M a w' :=
 ⟨k.os.trans h.os,k.tape.trans h.tape,k.output.trans h.output,Nat.le_trans h.size k.size,fun i e f=>by
  rw [k.block i (Nat.lt_of_lt_of_le e h.size) (fun c=>by rcases g i c with d | d;exact f d;omega)]
  exact h.block i e f⟩
theorem StW.call {L0 L1 L2:Own} {Φ1:List Pers} {w w':World} {p:Hp} (m:StH X L Φ p w) (x:L.Perm (L0++L2)) (hc:StW (cx w p (L0.map Prod.fst)) L1 Φ1 w'):StW X (L1++L2) (Φ1++Φ) w':=by
 obtain ⟨p',f⟩:=hc
 have v:p.le p':=f.le
 have h:∀ e ∈ L0++L2,e.1 ∈ X.M∨X.w0.heap.size≤e.1:=fun e a=>m.may e (x.symm.subset a)
 have j:A0u (L0++L2) p w:=⟨fun e a=>m.own.1 e (x.symm.subset a),(x.map Prod.fst).nodup_iff.1 m.own.2⟩
 have t:=j.2
 rw [List.map_append,List.nodup_append] at t
 have k:∀ e ∈ L2,e.1 ∉ L0.map Prod.fst:=fun e a hm=>t.2.2 e.1 hm e.1 (List.mem_map_of_mem a) rfl
 have i:∀ e ∈ L2,e.1<w.heap.size:=fun e a=>j.lt (List.mem_append_right _ a)
 refine ⟨p',⟨?_,f.sub,Hp.le_trans m.le v,?_,?_,?_,m.kept.of_call f.kept fun b y=>?_,fun d hd=>?_⟩⟩
 ·intro q u
  rcases List.mem_append.1 u with u | u
  ·exact f.facts q u
  ·exact q.mono v (m.facts q u)
 ·intro b y
  rcases f.dom b y with l | l | l
  ·exact m.dom b l
  ·obtain ⟨e,a,rfl⟩:=List.mem_map.1 l
   exact .inr (h e (List.mem_append_left _ a))
  ·exact .inr (.inr (Nat.le_trans m.kept.size l))
 ·constructor
  ·intro e a
   rcases List.mem_append.1 a with a | a
   ·exact f.own.1 e a
   ·have l:=j.1 e (List.mem_append_right _ a)
    refine ⟨by rw [f.kept.block _ (i e a) (k e a)];exact l.1,?_⟩
    cases h2:p' e.1 with
    | none=>rfl
    | some o =>
     rcases f.dom e.1 (by rw [h2];simp) with g | g | g
     ·exact absurd l.2 g
     ·exact absurd g (k e a)
     ·have:=i e a;simp only at g;omega
  ·rw [List.map_append,List.nodup_append]
   refine ⟨f.own.2,t.2.1,?_⟩
   intro b y c hc
   obtain ⟨e,a,rfl⟩:=List.mem_map.1 y
   obtain ⟨z,n,rfl⟩:=List.mem_map.1 hc
   intro a3
   rcases f.may e a with g | g
   ·exact k z n (a3▸g)
   ·have:=i z n;simp only at g;omega
 ·intro e a
  rcases List.mem_append.1 a with a | a
  ·rcases f.may e a with g | g
   ·obtain ⟨z,n,h4⟩:=List.mem_map.1 g
    rw [← h4];exact h z (List.mem_append_left _ n)
   ·exact .inr (Nat.le_trans m.kept.size g)
  ·exact h e (List.mem_append_right _ a)
 ·obtain ⟨e,a,rfl⟩:=List.mem_map.1 y
  exact h e (List.mem_append_left _ a)
 ·obtain ⟨l,h2,g,h4⟩:=m.res d hd
  have a4:=(Array.getElem?_eq_some_iff.1 l).1
  have s:d.1 ∉ L0.map Prod.fst:=fun hm=>by
   obtain ⟨e,a,a5⟩:=List.mem_map.1 hm
   exact g e (x.symm.subset (List.mem_append_left _ a)) a5
  refine ⟨(f.kept.block d.1 a4 s).trans l,?_,fun e a=>?_,h4⟩
  ·cases h5:p' d.1 with
   | none=>rfl
   | some o =>
    rcases f.dom d.1 (by rw [h5];simp) with r | r | r
    ·exact absurd h2 r
    ·exact absurd r s
    ·simp only at r;omega
  ·rcases List.mem_append.1 a with a | a
   ·rcases f.may e a with r | r
    ·exact fun hE=>s (hE▸r)
    ·simp only at r;omega
   ·exact g e (x.symm.subset (List.mem_append_right _ a))
theorem C9q {o:Oper} {c:Call} {m:Operand} {k:FuncId} {first cap:Array Value} {q args:List Value} {L0 L2:Own} {Φ0:List Pers} {α:Type} {val:α→Value} {L1:α→Own} {Φ1:α→List Pers}
  (b:Con P k args L0 Φ0 α val L1 Φ1) (l:o.op=.call c) (t:c.callee=.value m) (u:ev E m=some (.func (.func k) first cap)) (d:c.args.toList.mapM (ev E)=some q) (y:(first++q.toArray++cap).toList=args)
  (hΦ:B0 Φ Φ0) (j:L.Perm (L0++L2)):Tri P n X o E L Φ α val (fun x=>L1 x++L2) (fun x=>Φ1 x++Φ):=by
 intro a w K Q r s
 obtain ⟨p,f⟩:=r.world
 have hr:=C5r r.has l t u d b.1 w
 refine A7c (by rw [l];rfl) ?_
 unfold Oper.wp
 rw [hr,Oper.upon_enter]
 have g:A0u (L0++L2) p w:=⟨fun e i=>f.own.1 e (j.symm.subset i),(j.map Prod.fst).nodup_iff.1 f.own.2⟩
 have:=b.2 w p (hΦ p f.facts) f.sub (g.sub (List.sublist_append_left _ _))
 rw [← y,Array.toArray_toList] at this
 refine this.mono fun e w' ⟨x,i,v⟩=>?_
 subst i
 exact s x w' (StW.call f j v)
theorem N3 {o:Oper} {c:Call} {i:Operand} {k:FuncId} {first cap:Array Value} {j args:List Value} {Φ0:List Pers} {v:Value}
  (b:G3 P k args Φ0 v) (l:o.op=.call c) (m:c.callee=.value i) (n:ev E i=some (.func (.func k) first cap)) (d:c.args.toList.mapM (ev E)=some j) (u:(first++j.toArray++cap).toList=args)
  (hΦ:B0 Φ Φ0):Det P X o E L Φ v:=by
 intro a r w ⟨p,f⟩
 have hr:=C5r r l m n d b.1 w
 unfold Oper.quietAt
 rw [hr]
 refine ⟨rfl,?_⟩
 have:=b.2 w p (hΦ p f.facts) f.sub (show A0u [] p w from ⟨fun e g=>(by cases g),List.nodup_nil⟩)
 rw [← u,Array.toArray_toList] at this
 refine this.mono fun e w' ⟨x,g,s⟩=>⟨g,?_⟩
 have h:=StW.call (L0:=[]) (L2:=L) f oom s
 exact h.foll fun p f q t=>f q (List.mem_append_right _ t)
theorem D2v {c:Code} {β:Type} (I:β→Prop) (Ei:β→Env) (Li:β→Own) (Φi:β→List Pers) (μ:β→Nat) (b:β) (m:I b) (hE:S5 E (Ei b)) (l:List.Sublist (Li b) L) (hΦ:B0 Φ (Φi b))
  (h:∀ x,I x→J P n X c (Exit.then (fun a w=>∃ y,I y∧μ y<μ x∧St n X (Ei y) (Li y) (Φi y) a w) Q) (Ei x) (Li x) (Φi x)):J P n X (.loop c) Q E L Φ:=by
 intro a w d
 refine wpIn_loop_ghost (fun k a w=>∃ x,I x∧μ x=k∧St n X (Ei x) (Li x) (Φi x) a w) (μ b) ⟨b,m,rfl,d.size,d.defers,d.has.weaken (Q7 hE),(d.world.sub l).foll hΦ⟩ ?_
 rintro k a w ⟨x,j,rfl,f⟩
 refine Code.wpIn_mono (fun e a w q=>?_) (h x j a w f)
 cases e with
 | normal=>obtain ⟨y,g,o,i⟩:=q;exact ⟨μ y,o,y,g,rfl,i⟩
 | _=>exact q
end
end Go.Fen
set_option linter.unusedVariables false
set_option linter.unusedSimpArgs false
namespace Go.Fen
open Go Go.RowKit
section
variable {P:Program} {n:Nat} {X:Cx} {K:Act→World→Prop} {Q:Exit→Act→World→Prop} {E E':Env} {L L':Own} {Φ Φ':List Pers}
theorem A1b {k:IntKind} {m:Int} (a:k.min≤m) (b:m≤k.max):k.wrap m=m:=by
 cases k<;>simp only [IntKind.wrap,IntKind.min,IntKind.max,IntKind.bits,IntKind.signed] at *<;>simp at a b ⊢<;>omega
theorem I2 {o:Oper} {v u:Value} (h:G7 P X o E L Φ v) (a:v=u):G7 P X o E L Φ u:=a▸h
theorem E0f {o:Oper} {T U:TypeId} {x y:Operand} {k:IntKind} {a b c:Int} (e:o.op=.binOp .add T x y U) (f:ev E x=some (.int k a)) (i:ev E y=some (.int k b)) (h:a+b=c) (d:k.min≤c) (g:c≤k.max):G7 P X o E L Φ (.int k c) :=
 .pure (by simp [B2v,e,f,i,C0e,h,A1b d g])
theorem E0h {o:Oper} {T U:TypeId} {x y:Operand} {k:IntKind} {a b c:Int} (e:o.op=.binOp .sub T x y U) (f:ev E x=some (.int k a)) (i:ev E y=some (.int k b)) (h:a - b=c) (d:k.min≤c) (g:c≤k.max):G7 P X o E L Φ (.int k c) :=
 .pure (by simp [B2v,e,f,i,C0e,h,A1b d g])
theorem C0 {o:Oper} {T U:TypeId} {x y:Operand} {a b c:Int} (d:o.op=.binOp .add T x y U) (e:ev E x=some (.int .i64 a)) (g:ev E y=some (.int .i64 b)) (f:a+b=c) (h:-9223372036854775808≤c∧c≤9223372036854775807):G7 P X o E L Φ (.int .i64 c):=E0f d e g f h.1 h.2
theorem V9 {o:Oper} {T U:TypeId} {x y:Operand} {a b c:Int} (d:o.op=.binOp .sub T x y U) (e:ev E x=some (.int .i64 a)) (g:ev E y=some (.int .i64 b)) (f:a - b=c) (h:-9223372036854775808≤c∧c≤9223372036854775807):G7 P X o E L Φ (.int .i64 c):=E0h d e g f h.1 h.2
theorem D4q {o:Oper} {T U:TypeId} {x y:Operand} {k:IntKind} {a b c:Int} (e:o.op=.binOp .rem T x y U) (f:ev E x=some (.int k a)) (h:ev E y=some (.int k b)) (i:b≠0) (g:a.tmod b=c):G7 P X o E L Φ (.int k c) :=
 .of_run fun j w d _=>by simp [execOp,e,C4 d f,C4 d h,eqGuard,binOp,Op.intDiv,i,g]
theorem Q8 {o:Oper} {T U:TypeId} {x y:Operand} {k j:IntKind} {a b c:Int} (e:o.op=.binOp .shr T x y U) (f:ev E x=some (.int k a)) (h:ev E y=some (.int j b)) (l:0≤b) (g:a.fdiv (2 ^ (min b.toNat k.bits))=c):G7 P X o E L Φ (.int k c) :=
 .of_run fun i w d _=>by
  have:¬ b<0:=by omega
  simp [execOp,e,C4 d f,C4 d h,eqGuard,binOp,Op.shift,this,g]
theorem B5w {o:Oper} {T U:TypeId} {x y:Operand} {k j:IntKind} {a b c:Int} (e:o.op=.binOp .shl T x y U) (f:ev E x=some (.int k a)) (h:ev E y=some (.int j b)) (l:0≤b) (g:k.wrap (a * 2 ^ (min b.toNat k.bits))=c):G7 P X o E L Φ (.int k c) :=
 .of_run fun i w d _=>by
  have:¬ b<0:=by omega
  simp [execOp,e,C4 d f,C4 d h,eqGuard,binOp,Op.shift,this,g]
theorem B1y {o:Oper} {S T:TypeId} {x:Operand} {k j:IntKind} {a c:Int} (i:P.underlying T=some (.int j)) (h:(P.underlying S).isSome=true) (b:o.op=.convert S T x) (e:ev E x=some (.int k a)) (f:j.wrap a=c):G7 P X o E L Φ (.int j c) :=
 .of_run fun m w l _=>by
  obtain ⟨d,g⟩:=Option.isSome_iff_exists.1 h
  simp [execOp,b,C4 l e,convert,run_underlying i,run_underlying g,Conv.intToInt,f]
theorem D9q {o:Oper} {T U:TypeId} {x y:Operand} {a b:Bool} (g:P.underlying T=some .bool) (d:o.op=.binOp .eql T x y U) (e:ev E x=some (.bool a)) (f:ev E y=some (.bool b)):G7 P X o E L Φ (.bool (a == b)) :=
 .of_run fun h w c _=>by simp [execOp,d,C4 c e,C4 c f,eqGuard,binOp,Op.equal,Op.maxDepth,run_equalIn_bool' w 9999 T a b g]
theorem D4o {o:Oper} {T U:TypeId} {x y:Operand} {a b:Bool} (g:P.underlying T=some .bool) (d:o.op=.binOp .neq T x y U) (e:ev E x=some (.bool a)) (f:ev E y=some (.bool b)):G7 P X o E L Φ (.bool (!(a == b))) :=
 .of_run fun h w c _=>by simp [execOp,d,C4 c e,C4 c f,eqGuard,binOp,Op.equal,Op.maxDepth,run_equalIn_bool' w 9999 T a b g]
def D2e (P:Program) (T:Nat) (a:List (Nat×Value)):Option (Array Value) :=
 match (P.info? T).bind (·.zero),P.underlying T with
 | some z,some (.struct fields) =>
  match fields.mapM fun f=>(P.info? f.type).map fun i=>(f.offset,i.size) with
  | some places=>Instr.fill (places[·]?) z.cells a
  | none=>none
 | some z,some (.array _ e)=>match P.info? e with
  | some i=>Instr.fill (fun k=>some (k * i.size,i.size)) z.cells a
  | none=>none
 | _,_=>none
theorem B6t {α β:Type} {g:α→Sem β} {f:α→Option β} {w:World} (b:∀ x y,f x=some y→(g x).run P w=.ok y w):∀ {xs:List α} {ys:List β},xs.mapM f=some ys→(xs.mapM g).run P w=.ok ys w
 | [],ys,h=>by simp at h;subst h;rfl
 | x::xs,ys,h=>by
  simp only [List.mapM_cons,Option.bind_eq_bind,Option.bind_eq_some_iff] at h
  obtain ⟨y,c,d,a,h⟩:=h
  simp only [Option.pure_def,Option.some.injEq] at h
  subst h
  simp [List.mapM_cons,b x y c,B6t b a]
theorem C8d {α β:Type} {g:α→Sem β} {f:α→Option β} {w:World} (b:∀ x y,f x=some y→(g x).run P w=.ok y w) {xs:Array α} {ys:Array β} (h:xs.mapM f=some ys):(xs.mapM g).run P w=.ok ys w:=by
 rw [Array.mapM_eq_mapM_toList] at h ⊢
 simp only [Option.map_eq_map,Option.map_eq_some_iff] at h
 obtain ⟨c,a,rfl⟩:=h
 simp [B6t b a]
def B2r (E:Env):List (Nat×Operand)→Option (List (Nat×Value))
 | []=>some []
 | (i,x)::rest=>match ev E x,B2r E rest with
  | some v,some r=>some ((i,v)::r)
  | _,_=>none
theorem B3o {a:Act} (c:Has a E):∀ {ps:List (Nat×Operand)} {b:List (Nat×Value)},B2r E ps=some b→ps.map (fun (i,x)=>(i,a.eval x))=b
 | [],b,h=>by simp [B2r] at h;simp [h]
 | (i,x)::rest,b,h=>by
  unfold B2r at h
  split at h
  ·rename_i v r d hr
   simp only [Option.some.injEq] at h;subst h
   simp [C4 c d,B3o c hr]
  ·cases h
theorem C1h {o:Oper} {T:Nat} {ps:Array (Nat×Operand)} {vs:List (Nat×Value)} {cs:List Value} (q:o.op=.build T ps) (s:B2r E ps.toList=some vs) (b:D2e P T vs=some cs.toArray):G7 P X o E L Φ (.agg cs.toArray) :=
 .of_run fun a w u _=>by
  have r:(ps.map fun (x:Nat×Operand)=>(x.1,a.eval x.2)).toList=vs:=by simpa using B3o u s
  unfold D2e at b
  split at b
  ·rename_i z c g n
   obtain ⟨i,j,g⟩:=Option.bind_eq_some_iff.1 g
   split at b
   ·rename_i d l
    have h:(zeroValue T).run P w=.ok z w:=by simp [zeroValue,A7m j,g]
    have p:(c.mapM fun f=>(do pure (f.offset,← sizeOf f.type):Sem (Nat×Nat))).run P w=.ok d w:=by
     refine C8d (fun f y t=>?_) l
     obtain ⟨i,j,rfl⟩:=Option.map_eq_some_iff.1 t
     simp [A3m j]
    simp only [execOp,q,Instr.build,Sem.run_bind,h,Result.andThen_ok,run_underlying n,p,r,b]
    rfl
   ·cases b
  ·rename_i z k e g n
   obtain ⟨i,j,g⟩:=Option.bind_eq_some_iff.1 g
   split at b
   ·rename_i v m
    have h:(zeroValue T).run P w=.ok z w:=by simp [zeroValue,A7m j,g]
    simp only [execOp,q,Instr.build,Sem.run_bind,h,Result.andThen_ok,run_underlying n,A3m m,r,b]
    rfl
   ·cases b
  ·cases b
def sl {α:Type} (c:α→List Value) (q:Option Addr) (xs:List α):Pers:=⟨fun h=>match q with | none=>xs=[] | some a=>A5k h a (xs.flatMap c),fun {h h'} hl hp=>by
 cases q with
 | none=>exact hp
 | some a=>exact (at_ a (xs.flatMap c)).mono hl hp⟩
theorem B0z {α:Type} {c:α→List Value} {sz:Nat} (a:∀ x,(c x).length=sz):∀ {xs:List α} {k:Nat} {v:α},xs[k]?=some v→∀ j u,(c v)[j]?=some u→(xs.flatMap c)[k * sz+j]?=some u
 | [],k,v,h,j,u,hu=>by cases h
 | x::xs,0,v,h,j,u,hu=>by
  simp only [List.getElem?_cons_zero,Option.some.injEq] at h;subst h
  rw [List.flatMap_cons,Nat.zero_mul,Nat.zero_add,List.getElem?_append_left (List.getElem?_eq_some_iff.1 hu).1];exact hu
 | x::xs,k+1,v,h,j,u,hu=>by
  simp only [List.getElem?_cons_succ] at h
  have:=B0z a h j u hu
  rw [List.flatMap_cons,List.getElem?_append_right (by rw [a,Nat.succ_mul];omega),a,show (k+1) * sz+j - sz=k * sz+j by rw [Nat.succ_mul];omega];exact this
theorem A5k.sub {α:Type} {c:α→List Value} {sz:Nat} (e:∀ x,(c x).length=sz) {xs:List α} {h:Hp} {a:Addr} (i:A5k h a (xs.flatMap c)) {k:Nat} {v:α} (d:xs[k]?=some v):A5k h (a.add (k * sz)) (c v):=by
 obtain ⟨b,o,l⟩:=a
 obtain g | ⟨h0,cc,T,fr,h1,h2⟩:=i
 ·exact .inl (List.flatMap_eq_nil_iff.1 g v (List.mem_of_getElem? d))
 simp only at h0 h1 h2
 subst h0
 rw [Z4]
 exact .inr ⟨rfl,cc,T,fr,h1,fun j u f=>by rw [Nat.add_assoc];exact h2 _ _ (B0z e d j u f)⟩
structure SlTy (P:Program) (T e sz:Nat):Prop where
 ty:P.underlying T=some (.slice e)
 size:(P.info? e).map (·.size)=some sz
theorem SlTy.run {T e sz:Nat} (h:SlTy P T e sz) (w:World):(sizeOf e).run P w=.ok sz w:=by
 obtain ⟨i,a,b⟩:=Option.map_eq_some_iff.1 h.size
 rw [A3m a,b]
theorem E1a {T e sz:Nat} (b:SlTy P T e sz) {a:Addr} {len cap k:Nat} (d:k<len) (w:World):(Instr.indexAt T (.slice (some a) len cap) (.int .i64 k)).run P w=.ok (.pointer (some (a.add (k * sz)))) w:=by
 have c:(0:Int)≤k∧(k:Int)<len:=by omega
 simp [Instr.indexAt,asIntOf,run_underlying b.ty,b.run,c,Nat.not_le.2 d]
theorem D4g {α:Type} {c:α→List Value} {q:Option Addr} {xs:List α} {p:Hp} (h:(sl c q xs).p p) {k:Nat} (b:k<xs.length):∃ a,q=some a:=by
 cases q with
 | none=>simp [sl] at h;subst h;simp at b
 | some a=>exact ⟨a,rfl⟩
theorem D7s {o:Oper} {T e sz:Nat} {x y:Operand} {a:Addr} {b cap:Nat} {m:Int} (i:SlTy P T e sz) (d:o.op=.indexAddr T x y)
  (f:ev E x=some (.slice (some a) b cap)) (h:ev E y=some (.int .i64 m)) (k:Nat) (g:m=k) (j:k<b):G7 P X o E L Φ (.pointer (some (a.add (k * sz)))) :=
 .of_run fun l w c _=>by
  subst g
  simp [execOp,d,C4 c f,C4 c h,E1a i j]
theorem P3 {c:Array Oper} {i m:Nat} {α:Type} {f:α→List Value} {q:Option Addr} {xs:List α} (j:Nat) (hΦ:Φ[j]?=some (sl f q xs)) (k:0<xs.length) (h:∀ a,q=some a→JI P n X c i m K Q E L Φ):JI P n X c i m K Q E L Φ:=fun a w d=>by
 obtain ⟨p,e⟩:=d.world
 obtain ⟨b,g⟩:=D4g (e.facts _ (List.mem_of_getElem? hΦ)) k
 exact h b g a w d
theorem F4 {o:Oper} {T e sz len:Nat} {x y:Operand} {cs us:List Value} {m:Int} {v:Value} (p:P.underlying T=some (.array len e)) {agg:Bool} (b:Ty P e sz agg) (g:o.op=.index T x y)
  (h:ev E x=some (.agg cs.toArray)) (n:ev E y=some (.int .i64 m)) (k:Nat) (j:m=k) (r:k<len) (d:(cs.drop (k * sz)).take sz=us) (a:(if agg then some (.agg us.toArray) else us[0]?)=some v) (i:Nat.blt 0 sz=true):G7 P X o E L Φ v :=
 .of_run fun q w f _=>by
  subst j
  have l:(0:Int)≤k∧(k:Int)<len:=by omega
  have c:0<sz:=by simpa [Nat.blt_eq] using i
  simp only [execOp,g,C4 f h,C4 f n,Instr.index,asIntOf,Sem.run_bind,Sem.run_pure,Result.andThen_ok,run_underlying p,l,and_self,if_true,Int.toNat_natCast,b.size,part,b.agg]
  cases agg with
  | true =>
   simp only [if_true,Option.some.injEq] at a
   subst a
   simp [b.size]
   exact d
  | false =>
   simp only [Bool.false_eq_true,if_false] at a
   have:cs.toArray[k * sz]?=some v:=by
    rw [← a,← d,List.getElem?_take,if_pos c,List.getElem?_drop]
    simp
   simp only [Bool.false_eq_true,if_false,this,Sem.run_pure,Result.andThen_ok]
structure EqT (P:Program) (T:Nat) {α:Type} [DecidableEq α] (c:α→List Value):Prop where
 run:∀ (x y:α) (w:World),(Op.equal T (.agg (c x).toArray) (.agg (c y).toArray)).run P w=.ok (decide (x=y)) w
 guard:P.eqGuardType P.depth T=false
theorem C8v {o:Oper} {T U:TypeId} {x y:Operand} {α:Type} [DecidableEq α] {c:α→List Value} {a b:α} (e:EqT P T c) (f:o.op=.binOp .eql T x y U) (g:ev E x=some (.agg (c a).toArray)) (h:ev E y=some (.agg (c b).toArray)):G7 P X o E L Φ (.bool (decide (a=b))) :=
 .of_run fun i w d _=>by simp [execOp,f,C4 d g,C4 d h,eqGuard,e.guard,binOp,e.run]
theorem A0t {o:Oper} {T U:TypeId} {x y:Operand} {α:Type} [DecidableEq α] {c:α→List Value} {a b:α} (e:EqT P T c) (f:o.op=.binOp .neq T x y U) (g:ev E x=some (.agg (c a).toArray)) (h:ev E y=some (.agg (c b).toArray)):G7 P X o E L Φ (.bool (!decide (a=b))) :=
 .of_run fun i w d _=>by simp [execOp,f,C4 d g,C4 d h,eqGuard,e.guard,binOp,e.run]
end
end Go.Fen
set_option linter.unusedVariables false
set_option linter.unusedSimpArgs false
namespace Go.Fen
open Go Go.RowKit
def B3r (P:Program) (T:TypeId):Bool:=match P.underlying T with
 | some (.struct _) | some (.array _ _)=>true
 | _=>false
def vOf (P:Program) (T:TypeId) (us:List Value):Value:=if B3r P T then .agg us.toArray else us.headD undef
def D7m (P:Program) (r:TypeId→List Value→List Value→Bool):List Field→Nat→List Value→List Value→Bool
 | [],_,us,vs=>us.isEmpty&&vs.isEmpty
 | f :: fs, off, us, vs => f.name != "_" && f.offset == off && r f.type (us.take (P.cellsOf f.type)) (vs.take (P.cellsOf f.type)) && D7m P r fs (off + P.cellsOf f.type) (us.drop (P.cellsOf f.type)) (vs.drop (P.cellsOf f.type))
def D5w (P:Program) (r:TypeId→List Value→List Value→Bool) (e:TypeId):Nat→List Value→List Value→Bool
 | 0,us,vs=>us.isEmpty&&vs.isEmpty
 | n+1,us,vs=>r e (us.take (P.cellsOf e)) (vs.take (P.cellsOf e))&&D5w P r e n (us.drop (P.cellsOf e)) (vs.drop (P.cellsOf e))
def wk (P:Program):Nat→TypeId→List Value→List Value→Bool
 | 0,_,_,_=>false
 | d+1,T,us,vs=>(P.info? T).isSome&&us.length == P.cellsOf T&&vs.length == P.cellsOf T&&match P.underlying T with
  | some .bool=>match us,vs with
   | [.bool _],[.bool _]=>true
   | _,_=>false
  | some (.int k)=>match us,vs with
   | [.int a _],[.int b _]=>decide (a=k)&&decide (b=k)
   | _,_=>false
  | some .string=>match us,vs with
   | [.string _],[.string _]=>true
   | _,_=>false
  | some (.struct fs)=>!P.stoodInHeld T&&D7m P (wk P d) fs.toList 0 us vs
  | some (.array n e)=>n != 0&&D5w P (wk P d) e n us vs
  | _=>false
section
variable {P:Program}
theorem C9l {T:TypeId} {i:TypeInfo} (h:P.info? T=some i):P.cellsOf T=i.size:=by simp [Program.cellsOf,h]
theorem B3e {T:TypeId} (b:(P.info? T).isSome=true) {d:TypeDesc} (c:P.underlying T=some d) {xs:Array Value} {off:Nat} {us:List Value} (e:(xs.toList.drop off).take (P.cellsOf T)=us) (g:B3r P T=false→us≠[]) (w:World) :
  (part T xs off).run P w=.ok (vOf P T us) w:=by
 obtain ⟨i,b⟩:=Option.isSome_iff_exists.1 b
 have a:(isAgg T).run P w=.ok (B3r P T) w:=by
  unfold isAgg B3r
  rw [Sem.run_bind,run_underlying c,c]
  cases d<;>rfl
 cases hr:B3r P T with
 | true =>
  have:xs.extract off (off+i.size)=us.toArray:=by
   rw [← e,C9l b]
   apply Array.ext'
   simp [List.extract_eq_take_drop]
  simp [part,a,hr,A3m b,vOf,this]
 | false =>
  have f:xs[off]?=some (us.headD undef):=by
   cases us with
   | nil=>exact absurd rfl (g hr)
   | cons u us =>
    have:=congrArg (·[0]?) e
    simp only [List.getElem?_cons_zero,List.getElem?_take,List.getElem?_drop,Nat.add_zero] at this
    split at this
    ·simpa using this
    ·cases this
  simp [part,a,hr,vOf,f]
theorem D4i:∀ (d:Nat) (k:Nat) (T:TypeId) (us l:List Value) (w:World),wk P d T us l=true→∃ b:Bool,(Op.equalIn (k+d) T (vOf P T us) (vOf P T l)).run P w=.ok b w∧(b=true ↔ us=l)
 | 0,_,_,_,_,_,h=>by simp [wk] at h
 | d+1,k,T,us,l,w,h=>by
  have ih:=fun T us l h=>D4i d k T us l w h
  unfold wk at h
  simp only [Bool.and_eq_true,beq_iff_eq] at h
  obtain ⟨⟨⟨hi,a8⟩,a4⟩,h⟩:=h
  have a2:∀ (T:TypeId) (us l:List Value),wk P d T us l=true→(P.info? T).isSome=true∧us.length=P.cellsOf T∧l.length=P.cellsOf T∧(∃ dd,P.underlying T=some dd)∧(B3r P T=false→us≠[]∧l≠[]):=by
   intro T us l h
   cases d with
   | zero=>simp [wk] at h
   | succ d =>
    unfold wk at h
    simp only [Bool.and_eq_true,beq_iff_eq] at h
    obtain ⟨⟨⟨hi,a8⟩,a4⟩,h⟩:=h
    refine ⟨hi,a8,a4,?_,?_⟩
    ·split at h<;>first|exact ⟨_,‹_›⟩|cases h
    ·intro hr
     split at h
     ·split at h
      ·simp
      ·cases h
     ·split at h
      ·simp
      ·cases h
     ·split at h
      ·simp
      ·cases h
     ·rename_i n;simp [B3r,n] at hr
     ·rename_i n;simp [B3r,n] at hr
     ·cases h
  split at h
  ·rename_i n
   have hr:B3r P T=false:=by simp [B3r,n]
   split at h
   ·rename_i a b
    exact ⟨a == b,by simp [vOf,hr,← Nat.add_assoc,run_equalIn_bool' w _ T a b n],by simp⟩
   ·cases h
  ·rename_i q n
   have hr:B3r P T=false:=by simp [B3r,n]
   split at h
   ·rename_i j a j' b
    simp only [Bool.and_eq_true,decide_eq_true_eq] at h
    obtain ⟨rfl,rfl⟩:=h
    exact ⟨a == b,by simp [vOf,hr,← Nat.add_assoc,run_equalIn_int w _ T _ _ a b n],by simp⟩
   ·cases h
  ·rename_i n
   have hr:B3r P T=false:=by simp [B3r,n]
   split at h
   ·rename_i a b
    refine ⟨a.toList == b.toList,by simp [vOf,hr,← Nat.add_assoc,run_equalIn_string w _ T a b n],?_⟩
    rw [beq_iff_eq,ByteArray.toList_eq,ByteArray.toList_eq]
    constructor
    ·intro e
     obtain ⟨⟨x⟩⟩:=a
     obtain ⟨⟨y⟩⟩:=b
     simp only at e
     rw [e]
    ·intro e
     simp only [List.cons.injEq,Value.string.injEq,and_true] at e
     rw [e]
   ·cases h
  ·rename_i fs n
   have hr:B3r P T=true:=by simp [B3r,n]
   simp only [Bool.and_eq_true,Bool.not_eq_true'] at h
   have hf:P.fieldsOf T=fs:=by simp [Program.fieldsOf,n]
   simp only [vOf,hr,if_true,Nat.add_succ]
   rw [run_equalIn_struct w (k+d) T us.toArray l.toArray (by rw [hf];exact n) h.1,hf]
   have v:∀ (fs:List Field) (off:Nat) (c g:List Value),us.drop off=c→l.drop off=g→D7m P (wk P d) fs off c g=true →
     ∃ b:Bool,(Op.eqFields (k+d) us.toArray l.toArray fs).run P w=.ok b w∧(b=true ↔ c=g):=by
    intro fs
    induction fs with
    | nil =>
     intro off c g _ _ h
     simp only [D7m,Bool.and_eq_true,List.isEmpty_iff] at h
     exact ⟨true,by simp [Op.eqFields],by simp [h.1,h.2]⟩
    | cons f fs ihf =>
     intro off c g h1 h2 h
     simp only [D7m,Bool.and_eq_true,bne_iff_ne,beq_iff_eq] at h
     obtain ⟨⟨⟨aa,z⟩,hk⟩,o⟩:=h
     obtain ⟨s,a3,a6,⟨dd,u⟩,p⟩:=a2 _ _ _ hk
     obtain ⟨b,hb,r⟩:=ih _ _ _ hk
     obtain ⟨b',a1,t⟩:=ihf (off+P.cellsOf f.type) _ _ (by rw [← h1,List.drop_drop]) (by rw [← h2,List.drop_drop]) o
     have p1:=B3e (P:=P) s u (xs:=us.toArray) (off:=f.offset) (us:=c.take (P.cellsOf f.type)) (by rw [z,← h1]) (fun e=>(p e).1) w
     have p2:=B3e (P:=P) s u (xs:=l.toArray) (off:=f.offset) (us:=g.take (P.cellsOf f.type)) (by rw [z,← h2]) (fun e=>(p e).2) w
     have split:c=g ↔ c.take (P.cellsOf f.type)=g.take (P.cellsOf f.type)∧c.drop (P.cellsOf f.type)=g.drop (P.cellsOf f.type):=by
      constructor
      ·intro e;rw [e];exact ⟨rfl,rfl⟩
      ·intro ⟨e1,e2⟩;rw [← List.take_append_drop (P.cellsOf f.type) c,e1,e2,List.take_append_drop]
     simp only [Op.eqFields,ne_eq,aa,not_false_eq_true,if_true,Sem.run_bind,p1,p2,Result.andThen_ok,hb]
     cases b with
     | false=>exact ⟨false,by simp,by rw [split,← r];simp⟩
     | true=>exact ⟨b',by simpa using a1,by rw [split,← r,t];simp⟩
   exact v fs.toList 0 us l rfl rfl h.2
  ·rename_i m e n
   have hr:B3r P T=true:=by simp [B3r,n]
   obtain ⟨i0,ai⟩:=Option.isSome_iff_exists.1 hi
   simp only [vOf,hr,if_true,Nat.add_succ]
   cases m with
   | zero=>simp at h
   | succ m =>
    simp only [Bool.and_eq_true] at h
    replace h:=h.2
    have a0:∃ i,P.info? e=some i:=by
     have:wk P d e (us.take (P.cellsOf e)) (l.take (P.cellsOf e))=true:=by simp only [D5w,Bool.and_eq_true] at h;exact h.1
     exact Option.isSome_iff_exists.1 (a2 _ _ _ this).1
    obtain ⟨ie,a0⟩:=a0
    rw [run_equalIn_array w (k+d) us.toArray l.toArray n a0,List.range_eq_range']
    have v:∀ (m:Nat) (j:Nat) (c g:List Value),us.drop (j * P.cellsOf e)=c→l.drop (j * P.cellsOf e)=g→D5w P (wk P d) e m c g=true →
      ∃ b:Bool,(Op.eqItems (k+d) e (P.cellsOf e) us.toArray l.toArray (List.range' j m)).run P w=.ok b w∧(b=true ↔ c=g):=by
     intro m
     induction m with
     | zero =>
      intro j c g _ _ h
      simp only [D5w,Bool.and_eq_true,List.isEmpty_iff] at h
      exact ⟨true,by simp [Op.eqItems],by simp [h.1,h.2]⟩
     | succ m ihm =>
      intro j c g h1 h2 h
      simp only [D5w,Bool.and_eq_true] at h
      obtain ⟨hk,o⟩:=h
      obtain ⟨s,a3,a6,⟨dd,u⟩,p⟩:=a2 _ _ _ hk
      obtain ⟨b,hb,r⟩:=ih _ _ _ hk
      obtain ⟨b',a1,t⟩:=ihm (j+1) _ _ (by rw [← h1,List.drop_drop,Nat.succ_mul]) (by rw [← h2,List.drop_drop,Nat.succ_mul]) o
      have p1:=B3e (P:=P) s u (xs:=us.toArray) (off:=j * P.cellsOf e) (us:=c.take (P.cellsOf e)) (by rw [← h1]) (fun e=>(p e).1) w
      have p2:=B3e (P:=P) s u (xs:=l.toArray) (off:=j * P.cellsOf e) (us:=g.take (P.cellsOf e)) (by rw [← h2]) (fun e=>(p e).2) w
      have split:c=g ↔ c.take (P.cellsOf e)=g.take (P.cellsOf e)∧c.drop (P.cellsOf e)=g.drop (P.cellsOf e):=by
       constructor
       ·intro e;rw [e];exact ⟨rfl,rfl⟩
       ·intro ⟨e1,e2⟩;rw [← List.take_append_drop (P.cellsOf e) c,e1,e2,List.take_append_drop]
      rw [List.range'_succ]
      simp only [Op.eqItems,Sem.run_bind,p1,p2,Result.andThen_ok,hb]
      cases b with
      | false=>exact ⟨false,by simp,by rw [split,← r];simp⟩
      | true=>exact ⟨b',by simpa using a1,by rw [split,← r,t];simp⟩
    exact v (m+1) 0 us l oom oom h
  ·cases h
theorem EqT.of {T:TypeId} {α:Type} [DecidableEq α] {c:α→List Value} (d:Nat) (h:Nat.ble d 10000=true) (hr:B3r P T=true) (k:P.eqGuardType P.depth T=false) (i:∀ x y,wk P d T (c x) (c y)=true) (j:∀ x y,c x=c y→x=y):EqT P T c:=by
 refine ⟨fun x y w=>?_,k⟩
 obtain ⟨b,g,a⟩:=D4i d (10000 - d) T (c x) (c y) w (i x y)
 have f:=Nat.le_of_ble_eq_true h
 rw [Nat.sub_add_cancel f] at g
 simp only [vOf,hr,if_true] at g
 unfold Op.equal Op.maxDepth
 rw [g]
 congr 1
 by_cases e:x=y
 ·subst e;simp [a.2 rfl]
 ·cases b with
  | false=>simp [e]
  | true=>exact absurd (j _ _ (a.1 rfl)) e
end
end Go.Fen
set_option linter.unusedVariables false
set_option linter.unusedSimpArgs false
namespace Go.Fen
open Go Go.RowKit
abbrev ag (cs:List Value):Value:=.agg cs.toArray
abbrev bs (l:List UInt8):ByteArray:=⟨l.toArray⟩
structure Slc where
 q:Option Addr
 n:Nat
 k:Nat
deriving DecidableEq
section
variable {P:Program} {n:Nat} {X:Cx} {K:Act→World→Prop} {Q:Exit→Act→World→Prop} {E E':Env} {L L':Own} {Φ Φ':List Pers}
theorem C5g {o:Oper} {T e b sz:Nat} {agg:Bool} {x:Operand} {a:Addr} (g:P.underlying T=some (.array b e)) (h:Ty P e sz agg) (c:o.op=.slice T x none none none) (d:ev E x=some (.pointer (some a))):G7 P X o E L Φ (.slice (some a) b b) :=
 .of_run fun i w f _=>by
  by_cases h0:b=0
  ·subst h0
   simp [execOp,c,C4 f d,Instr.sliceAt,run_underlying g,Instr.sureAddr,Instr.sliceBounds,h.size]
  ·simp [execOp,c,C4 f d,Instr.sliceAt,run_underlying g,Instr.sureAddr,Instr.sliceBounds,h.size,Addr.add]
theorem C3 {o:Oper} {T e sz d:Nat} {ps:Array (Nat×Operand)} {vs:List (Nat×Value)} {α:Type} {c:α→List Value} {xs:List α} (u:SlTy P T e sz) (h:Nat.blt 0 (d * sz)=true) (s:o.op=.buildSlice T d ps) (g:B2r E ps.toList=some vs)
  (f:(if d * sz > 2 ^ 24 then none else match (P.info? e).bind (·.zero) with
   | some z=>Instr.fill (fun i=>some (i * sz,sz)) ((Array.range (d * sz)).map (z.cells[· % z.cells.size]!)) vs
   | none=>none)=some (xs.flatMap c).toArray) :
  Tri P n X o E L Φ Nat (fun b=>.slice (some ⟨b,0,none⟩) d d) (fun _=>L) (fun b=>sl c (some ⟨b,0,none⟩) xs::Φ):=by
 intro a w K Q t hk
 have hm:(ps.map fun (x:Nat×Operand)=>(x.1,a.eval x.2)).toList=vs:=by simpa using B3o t.has g
 split at f
 ·cases f
 ·rename_i l
  split at f
  ·rename_i z y
   obtain ⟨i,hi,m⟩:=Option.bind_eq_some_iff.1 y
   have r:(zeroValue e).run P w=.ok z w:=by simp [zeroValue,A7m hi,m]
   have hr:(execOp a.eval o).run P w=.ok (.value (.slice (some ⟨w.heap.size,0,none⟩) d d)) (w.alloc (.cells (xs.flatMap c).toArray e (0,0))):=by
    have h0:¬ d * sz=0:=by
     have:0<d * sz:=by simpa [Nat.blt_eq] using h
     omega
    simp only [execOp,s,Instr.buildSlice,Sem.run_bind,run_underlying u.ty,Result.andThen_ok,u.run,l,h0,Sem.run_ite,if_false,r,Sem.run_pure,hm,f,newRow,run_newObj]
    rfl
   refine A7c (by rw [s];rfl) ?_
   unfold Oper.wp
   rw [hr]
   refine hk w.heap.size _ ?_
   have:=(t.world.alloc (.cells (xs.flatMap c).toArray e (0,0))).freeze (i:=0) rfl
   refine this.foll fun p g q k=>?_
   rcases List.mem_cons.1 k with rfl | k
   ·have hb:p w.heap.size=some (.cells (xs.flatMap c).toArray e (0,0)):=g (blk w.heap.size (.cells (xs.flatMap c).toArray e (0,0))) oom
    exact .inr ⟨rfl,_,_,_,hb,fun j v hj=>by simpa using hj⟩
   ·exact g q (by simp [k])
  ·cases f
end
end Go.Fen
set_option linter.unusedVariables false
set_option linter.unusedSimpArgs false
namespace Go.Fen
open Go Go.RowKit
section
variable {P:Program} {n:Nat} {X:Cx} {K:Act→World→Prop} {Q:Exit→Act→World→Prop} {E E':Env} {L L':Own} {Φ Φ':List Pers}
def R0 (Φ:List Pers) (q:Pers):Prop:=∀ p:Hp,(∀ q ∈ Φ,q.p p)→q.p p
theorem B1 {q:Pers} (j:Nat) (h:Φ[j]?=some q):R0 Φ q:=fun _ a=>a q (List.mem_of_getElem? h)
theorem E3p {α:Type} {c:α→List Value} {sz:Nat} {a:Addr} {xs:List α} (e:∀ x,(c x).length=sz) (j:Nat) (h:Φ[j]?=some (sl c (some a) xs)) {k:Nat} {v:α} (b:xs[k]?=some v):R0 Φ (at_ (a.add (k * sz)) (c v)) :=
 fun p d=>A5k.sub e (show A5k p a (xs.flatMap c) from d _ (List.mem_of_getElem? h)) b
theorem A3p {a:Addr} {us ws:List Value} (h:R0 Φ (at_ a us)) (off n:Nat) (e:(us.drop off).take n=ws):R0 Φ (at_ (a.add off) ws):=fun p f=>by
 obtain ⟨b,o,i⟩:=a
 obtain g | ⟨h0,c,T,fr,h1,h2⟩:=h p f
 ·exact .inl (by rw [← e,g];simp)
 simp only at h0 h1 h2
 subst h0
 rw [Z4]
 refine .inr ⟨rfl,c,T,fr,h1,fun j v d=>?_⟩
 have:=h2 (off+j) v (by
  rw [← e,List.getElem?_take] at d
  split at d
  ·rwa [List.getElem?_drop] at d
  ·cases d)
 simpa [Nat.add_assoc] using this
theorem S3 {a:Addr} {us ws:List Value} (h:R0 Φ (at_ a us)) (n:Nat) (b:us.take n=ws):R0 Φ (at_ a ws):=by
 have:=A3p h 0 n (ws:=ws) (by simpa using b)
 simpa [Addr.add] using this
theorem L8 {o:Oper} {T sz:Nat} {x:Operand} {a:Addr} {us:List Value} (i:Ty P T sz true) (c:o.op=.load T x) (d:ev E x=some (.pointer (some a))) (hΦ:R0 Φ (at_ a us)) (f:us.length=sz) :
  G7 P X o E L Φ (.agg us.toArray):=.of_run fun l w k ⟨p,b⟩=>by
 have e:A5k p a us:=hΦ p b.facts
 simp [execOp,c,C4 k d,B3h i f fun j v g=>e.cell b.sub g]
theorem D6 {o:Oper} {T:Nat} {x:Operand} {a:Addr} {v:Value} {us:List Value} (i:Ty P T 1 false) (d:o.op=.load T x) (e:ev E x=some (.pointer (some a))) (hΦ:R0 Φ (at_ a us)) (c:us[0]?=some v) :
  G7 P X o E L Φ v:=.of_run fun k w g ⟨p,b⟩=>by
 have f:A5k p a us:=hΦ p b.facts
 simp [execOp,d,C4 g e,B2s i (f.cell (j:=0) b.sub c)]
theorem Z5 {o:Oper} {T e sz len b off:Nat} {agg:Bool} {x y:Operand} {m:Int} (l:P.underlying T=some (.array len e)) (h:Ty P e sz agg) (d:o.op=.indexAddr T x y)
  (f:ev E x=some (.pointer (some ⟨b,off,none⟩))) (j:ev E y=some (.int .i64 m)) (k:Nat) (g:m=k) (n:Nat.blt k len=true):G7 P X o E L Φ (.pointer (some ⟨b,off+k * sz,none⟩)) :=
 .of_run fun p w c _=>by
  subst g
  have a:k<len:=by simpa [Nat.blt_eq] using n
  have i:(0:Int)≤k∧(k:Int)<len:=by omega
  simp [execOp,d,C4 c f,C4 c j,Instr.indexAt,asIntOf,run_underlying l,Instr.sureAddr,h.size,i,Nat.not_le.2 a,Z4]
theorem A0s {c:Code} (k:Nat) (h:JQ n X (Code.roundsIn (FW X.rho) 0 P c Q k) E L Φ):J P n X (.loop c) Q E L Φ:=fun a w b=>wpIn_loop_rounds k (h a w b)
theorem F3 {c:Code} {k:Nat} (h:J P n X c (Exit.then (Code.roundsIn (FW X.rho) 0 P c Q k) Q) E L Φ):JQ n X (Code.roundsIn (FW X.rho) 0 P c Q (k+1)) E L Φ:=fun a w b=>by
 rw [roundsIn_succ];exact h a w b
theorem B0.con1 {q:Pers} (h:R0 Φ q) (k:B0 Φ Φ'):B0 Φ (q::Φ'):=B0.cons h k
end
end Go.Fen
set_option linter.unusedVariables false
set_option linter.unusedSimpArgs false
namespace Go.Fen
open Go Go.RowKit
abbrev iv (n:Int):Value:=.int .i64 n
abbrev bv (b:Bool):Value:=.bool b
abbrev pt (b o:Nat):Value:=.pointer (some ⟨b,o,none⟩)
abbrev pa (a:Addr):Value:=.pointer (some a)
abbrev sv (l:List UInt8):Value:=.string (bs l)
section
variable {P:Program} {n:Nat} {X:Cx} {K:Act→World→Prop} {Q:Exit→Act→World→Prop} {E E':Env} {L L':Own} {Φ Φ':List Pers}
def B2z (E:Env) (t:Nat):Bool:=match E.lookup t with | some _=>true | none=>false
def C6h (a:Array Oper) (E b:Env):Nat→Nat→Bool
 | 0,_=>true
 | k+1,i=>(match (a[i]?).bind (·.dst) with
  | some d=>B2z b d||!B2z E d
  | none=>true)&&C6h a E b k (i+1)
theorem B1h (A B:Env) (t:Nat):(A++B).lookup t=match A.lookup t with | some v=>some v | none=>B.lookup t:=by
 induction A with
 | nil=>rfl
 | cons p A ih =>
  obtain ⟨u,v⟩:=p
  by_cases h:t=u
  ·subst h;simp [List.lookup]
  ·have:(t == u)=false:=by simpa using h
   simp only [List.cons_append,List.lookup,this];exact ih
theorem C1x {c:Array Oper} {b:Env} {t:Nat} {v:Value} (E0:Env) (g:E0.lookup t=some v) (j:b.lookup t=none):∀ (k i:Nat) {E R:Env},C6h c E0 b k i=true→A4l P n c k i E=some R→E.lookup t=some v→R.lookup t=some v
 | 0,i,E,R,_,h,he=>by simp [A4l] at h;subst h;exact he
 | k+1,i,E,R,hk,h,he=>by
  unfold A4l at h
  unfold C6h at hk
  simp only [Bool.and_eq_true] at hk
  split at h
  ·rename_i o l
   split at h
   ·rename_i E1 a
    refine C1x E0 g j k (i+1) hk.2 h ?_
    have f:o.dst≠some t:=by
     intro f
     have:=hk.1
     simp only [l,Option.bind_some,f,B2z,j,g] at this
     simp at this
    have put:∀ u,(Env.put E o.dst u).lookup t=some v:=by
     intro u
     cases hdst:o.dst with
     | none=>exact he
     | some d =>
      have:(t == d)=false:=by simp;intro e;exact f (by rw [hdst,e])
      simp only [Env.put,List.lookup,this];exact he
    unfold A9j at a
    split at a
    ·split at a
     ·simp only [Option.some.injEq] at a;subst a;exact put _
     ·cases a
    ·simp only [Option.some.injEq] at a;subst a;exact put _
    ·cases a
   ·cases h
  ·cases h
def A2k (P:Program) (n:Nat) (a:Array Oper) (k i:Nat) (E b:Env):Option Env:=if C6h a E b k i then D7a P n a k i E b else none
theorem C7i {c:Array Oper} {k i:Nat} {b:Env} (h:A2k P n c k i E b=some b):∃ R,A4l P n c k i E=some R∧∀ a,Has a R→Has a (b++E):=by
 unfold A2k at h
 split at h
 ·rename_i g
  unfold D7a at h
  split at h
  ·rename_i R hR
   refine ⟨R,hR,fun a f t v e=>?_⟩
   rw [B1h] at e
   split at e
   ·rename_i u d
    exact (f.weaken (Q7 (B5t h))) t v (by rw [d];exact e)
   ·rename_i d
    exact f t v (C1x E e d k i g hR e)
  ·cases h
 ·cases h
theorem ip {c:Array Oper} {i:Nat} (k m:Nat) (b:Env) (h:A2k P n c k i E b=some b) (g:JI P n X c (i+k) m K Q (b++E) L Φ):JI P n X c i (k+m) K Q E L Φ:=by
 obtain ⟨R,hR,e⟩:=C7i h
 exact D6v k i hR fun a w d=>g a w ⟨d.size,d.defers,e a d.has,d.world⟩
theorem dp {c:Array Oper} {i:Nat} (k m:Nat) (b:Env) (h:A2k P n c k i E b=some b) (g:JD P n X c (i+k) m K (b++E) L Φ):JD P n X c i (k+m) K E L Φ:=by
 obtain ⟨R,hR,j⟩:=C7i h
 exact D7l k i hR fun a d e f=>g a d e (j a f)
def B9f (n:Nat) (a:Array Oper) (i:Nat) (E:Env):Option Oper :=
 match a[i]? with
 | some o=>if (B0l a o E == some true)&&X1 n o.dst then some o else none
 | none=>none
theorem U2 {a:Array Oper} {i:Nat} {o:Oper} (h:B9f n a i E=some o):a[i]?=some o∧B0l a o E=some true∧X1 n o.dst=true:=by
 unfold B9f at h
 split at h
 ·rename_i o' c
  split at h
  ·rename_i b
   simp only [Option.some.injEq] at h;subst h
   simp only [Bool.and_eq_true,beq_iff_eq] at b
   exact ⟨c,b.1,b.2⟩
  ·cases h
 ·cases h
theorem it {a:Array Oper} {i m:Nat} {o:Oper} {α:Type} {val:α→Value} {L':α→Own} {Φ':α→List Pers} (b:B9f n a i E=some o) (c:Tri P n X o E L Φ α val L' Φ')
  (h:∀ x,JI P n X a (i+1) m K Q (Env.put E o.dst (val x)) (L' x) (Φ' x)):JI P n X a i (m+1) K Q E L Φ:=C6f (U2 b).1 (U2 b).2.1 (U2 b).2.2 c h
theorem ix {a:Array Oper} {i m:Nat} {o:Oper} {v:Value} (b:B9f n a i E=some o) (c:G7 P X o E L Φ v)
  (h:JI P n X a (i+1) m K Q (Env.put E o.dst v) L Φ):JI P n X a i (m+1) K Q E L Φ:=C8e (U2 b).1 (U2 b).2.1 (U2 b).2.2 c.det h
theorem ixc {a:Array Oper} {i m:Nat} {o:Oper} {v:Value} (b:B9f n a i E=some o) (c:Det P X o E L Φ v)
  (h:JI P n X a (i+1) m K Q (Env.put E o.dst v) L Φ):JI P n X a i (m+1) K Q E L Φ:=C8e (U2 b).1 (U2 b).2.1 (U2 b).2.2 c h
theorem dd {a:Array Oper} {i m:Nat} {o:Oper} {v:Value} (b:B9f n a i E=some o) (c:G7 P X o E L Φ v)
  (h:JD P n X a (i+1) m K (Env.put E o.dst v) L Φ):JD P n X a i (m+1) K E L Φ:=C9e (U2 b).1 (U2 b).2.1 (U2 b).2.2 c.det h
theorem ddc {a:Array Oper} {i m:Nat} {o:Oper} {v:Value} (b:B9f n a i E=some o) (c:Det P X o E L Φ v)
  (h:JD P n X a (i+1) m K (Env.put E o.dst v) L Φ):JD P n X a i (m+1) K E L Φ:=C9e (U2 b).1 (U2 b).2.1 (U2 b).2.2 c h
theorem E3x {b:Array Oper} {i:Nat} (k m t p:Nat) {g:Bool} (x:Bool) (j:E.lookup t=some (.bool g)) (o:A2k P n b k i ((t,.bool false)::E) [(p,.bool false)]=some [(p,.bool false)])
  (q:g=true→JI P n X b i k (fun a w=>St n X ((p,.bool x)::E) L Φ a w) Q ((t,.bool true)::E) L Φ) (h:JI P n X b (i+k) m K Q ((p,.bool (g&&x))::E) L Φ):JI P n X b i (k+m) K Q E L Φ:=by
 refine D5z k m ((p,.bool (g&&x))::E) L Φ (D0x t g j (fun e=>?_) (fun e=>?_)) h
 ·subst e;exact q rfl
 ·subst e
  refine ip k 0 _ o (A3 fun a w d=>⟨d.size,d.defers,?_,d.world⟩)
  intro u v c
  by_cases hup:u=p
  ·subst hup;simp [List.lookup] at c;subst c;exact d.has _ _ (by simp [List.lookup])
  ·have f:(u == p)=false:=by simpa using hup
   simp only [List.lookup,f] at c
   by_cases hut:u=t
   ·subst hut;rw [j] at c;simp at c;subst c;exact d.has _ _ (by simp [List.lookup,f])
   ·have l:(u == t)=false:=by simpa using hut
    exact d.has _ _ (by simp [List.lookup,f,l,c])
theorem ior {b:Array Oper} {i:Nat} (k m t p:Nat) {g:Bool} (x:Bool) (j:E.lookup t=some (.bool g)) (o:A2k P n b k i ((t,.bool true)::E) [(p,.bool true)]=some [(p,.bool true)])
  (q:g=false→JI P n X b i k (fun a w=>St n X ((p,.bool x)::E) L Φ a w) Q ((t,.bool false)::E) L Φ) (h:JI P n X b (i+k) m K Q ((p,.bool (g||x))::E) L Φ):JI P n X b i (k+m) K Q E L Φ:=by
 refine D5z k m ((p,.bool (g||x))::E) L Φ (D0x t g j (fun e=>?_) (fun e=>?_)) h
 ·subst e
  refine ip k 0 _ o (A3 fun a w d=>⟨d.size,d.defers,?_,d.world⟩)
  intro u v c
  by_cases hup:u=p
  ·subst hup;simp [List.lookup] at c;subst c;exact d.has _ _ (by simp [List.lookup])
  ·have f:(u == p)=false:=by simpa using hup
   simp only [List.lookup,f] at c
   by_cases hut:u=t
   ·subst hut;rw [j] at c;simp at c;subst c;exact d.has _ _ (by simp [List.lookup,f])
   ·have l:(u == t)=false:=by simpa using hut
    exact d.has _ _ (by simp [List.lookup,f,l,c])
 ·subst e;exact q rfl
theorem E2t {b:Array Oper} {i:Nat} (k m t p:Nat) {g:Bool} (x:Bool) (j:E.lookup t=some (.bool g)) (o:A2k P n b k i ((t,.bool false)::E) [(p,.bool false)]=some [(p,.bool false)])
  (q:g=true→JD P n X b i k (fun a _=>a.tmps.size=n∧a.defers=X.marks∧Has a ((p,.bool x)::E)) ((t,.bool true)::E) L Φ) (h:JD P n X b (i+k) m K ((p,.bool (g&&x))::E) L Φ):JD P n X b i (k+m) K E L Φ:=by
 refine D6k k m ((p,.bool (g&&x))::E) (D0y t g j (fun e=>?_) (fun e=>?_)) h
 ·subst e;exact q rfl
 ·subst e
  refine dp k 0 _ o (B7i fun a w d=>⟨d.size,d.defers,?_⟩)
  intro u v c
  by_cases hup:u=p
  ·subst hup;simp [List.lookup] at c;subst c;exact d.has _ _ (by simp [List.lookup])
  ·have f:(u == p)=false:=by simpa using hup
   simp only [List.lookup,f] at c
   by_cases hut:u=t
   ·subst hut;rw [j] at c;simp at c;subst c;exact d.has _ _ (by simp [List.lookup,f])
   ·have l:(u == t)=false:=by simpa using hut
    exact d.has _ _ (by simp [List.lookup,f,l,c])
theorem dor {b:Array Oper} {i:Nat} (k m t p:Nat) {g:Bool} (x:Bool) (j:E.lookup t=some (.bool g)) (o:A2k P n b k i ((t,.bool true)::E) [(p,.bool true)]=some [(p,.bool true)])
  (q:g=false→JD P n X b i k (fun a _=>a.tmps.size=n∧a.defers=X.marks∧Has a ((p,.bool x)::E)) ((t,.bool false)::E) L Φ) (h:JD P n X b (i+k) m K ((p,.bool (g||x))::E) L Φ):JD P n X b i (k+m) K E L Φ:=by
 refine D6k k m ((p,.bool (g||x))::E) (D0y t g j (fun e=>?_) (fun e=>?_)) h
 ·subst e
  refine dp k 0 _ o (B7i fun a w d=>⟨d.size,d.defers,?_⟩)
  intro u v c
  by_cases hup:u=p
  ·subst hup;simp [List.lookup] at c;subst c;exact d.has _ _ (by simp [List.lookup])
  ·have f:(u == p)=false:=by simpa using hup
   simp only [List.lookup,f] at c
   by_cases hut:u=t
   ·subst hut;rw [j] at c;simp at c;subst c;exact d.has _ _ (by simp [List.lookup,f])
   ·have l:(u == t)=false:=by simpa using hut
    exact d.has _ _ (by simp [List.lookup,f,l,c])
 ·subst e;exact q rfl
def C1t (E:Env) (t p:Nat):Env→Bool
 | []=>true
 | (u,_)::rest=>(u == t||u == p||!B2z E u)&&C1t E t p rest
theorem D3z {R:Env} (c t p:Nat) {v:Value} {g b:Bool} (n:g=b) (hR:R.drop c=E) (m:C1t E t p (R.take c)=true) (o:E.lookup t=some (.bool g)) (j:R.lookup t=some (.bool b)) (l:R.lookup p=some v) {a:Act} (k:Has a R):Has a ((p,v)::E):=by
 intro u x d
 by_cases hup:u=p
 ·subst hup;simp [List.lookup] at d;subst d;exact k _ _ l
 ·have r:(u == p)=false:=by simpa using hup
  simp only [List.lookup,r] at d
  by_cases hut:u=t
  ·subst hut;rw [o] at d;simp at d;subst d;subst n;exact k _ _ j
  ·refine k _ _ ?_
   have i:∀ A:Env,C1t E t p A=true→(A++E).lookup u=some x:=by
    intro A
    induction A with
    | nil=>intro _;exact d
    | cons q A ih =>
     obtain ⟨u',s⟩:=q
     intro h
     simp only [C1t,Bool.and_eq_true,Bool.or_eq_true,beq_iff_eq,Bool.not_eq_true'] at h
     have f:(u == u')=false:=by
      rcases h.1 with (h1 | h1) | h1
      ·subst h1;simpa using hut
      ·subst h1;simpa using hup
      ·by_cases e:u=u'
       ·subst e;simp [B2z,d] at h1
       ·simpa using e
     simp only [List.cons_append,List.lookup,f]
     exact ih h.2
   rw [← List.take_append_drop c R,hR]
   exact i _ m
theorem P7 {R:Env} (c t p:Nat) {v:Value} {g b:Bool} (k:g=b) (hΦ:B0 Φ' Φ) (l:List.Sublist L L') (hR:R.drop c=E) (i:C1t E t p (R.take c)=true) (j:E.lookup t=some (.bool g)) (e:R.lookup t=some (.bool b)) (f:R.lookup p=some v):JQ n X (fun a w=>St n X ((p,v)::E) L Φ a w) R L' Φ' :=
 fun _ _ d=>⟨d.size,d.defers,D3z c t p k hR i j e f d.has,(d.world.sub l).foll hΦ⟩
theorem E4o {R:Env} (c t p:Nat) {v:Value} {g b:Bool} (j:g=b) (hR:R.drop c=E) (h:C1t E t p (R.take c)=true) (i:E.lookup t=some (.bool g)) (d:R.lookup t=some (.bool b)) (f:R.lookup p=some v):JQ n X (fun a _=>a.tmps.size=n∧a.defers=X.marks∧Has a ((p,v)::E)) R L Φ :=
 fun _ _ e=>⟨e.size,e.defers,D3z c t p j hR h i d f e.has⟩
theorem sr {id:Nat} {b:Array Oper} {y:Code} (m:Nat) (c:b.size=m) (h:JI P n X b 0 m (fun a w=>y.wpIn (FW X.rho) 0 P Q a w) (Exit.then (fun a w=>y.wpIn (FW X.rho) 0 P Q a w) Q) E L Φ):J P n X (.seq (.region id b false) y) Q E L Φ:=A5 (A1 m c h)
theorem sd {id:Nat} {b:Array Oper} {y:Code} (m:Nat) (d:P.follows .mixedOrders=true) (c:Region.lexB .any b=true) (e:b.size=m) (h:JD P n X b 0 m (fun a w=>y.wpIn (FW X.rho) 0 P Q a w) E L Φ):J P n X (.seq (.region id b true) y) Q E L Φ:=A5 (C8w m d c e h)
theorem ie {b:Array Oper} {i:Nat} {y:Code} (h:J P n X y Q E L Φ) {Q':Exit→Act→World→Prop}:JI P n X b i 0 (fun a w=>y.wpIn (FW X.rho) 0 P Q a w) Q' E L Φ:=A3 h
theorem de {b:Array Oper} {i:Nat} {y:Code} (h:J P n X y Q E L Φ):JD P n X b i 0 (fun a w=>y.wpIn (FW X.rho) 0 P Q a w) E L Φ:=B7i h
theorem nx {y:Code} (h:J P n X y Q E L Φ):JQ n X (fun a w=>y.wpIn (FW X.rho) 0 P Q a w) E L Φ:=h
end
end Go.Fen
set_option linter.unusedVariables false
set_option linter.unusedSimpArgs false
namespace Go.Fen
open Go Go.RowKit
set_option linter.unusedSimpArgs false
set_option linter.unusedVariables false
section
variable {P:Program} {ops:Array Oper} {Q:Exit→Act→World→Prop} {S:World→Prop} {ρ:Option Nat}
def A4i (a:Array Oper):Bool:=a.all fun o=>!B9s o.op
theorem C5s (h:A4i ops=true) {i:Nat} {o:Oper} (b:ops[i]?=some o):B9s o.op=false:=by
 obtain ⟨a,c⟩:=Array.getElem?_eq_some_iff.1 b
 have:=(Array.all_eq_true.1 h) i a
 rw [c] at this;simpa using this
def AH (ρ:Option Nat) (P:Program) (b:Array Oper) (Q:Exit→Act→World→Prop) (S:Array Bool→World→Prop):Nat→Array Bool→Act→World→Prop
 | 0,listed,a,w=>Region.ready .any b listed=[]∧Q .normal a w
 | fuel+1,listed,a,w =>
  (Region.ready .any b listed=[]→Q .normal a w) ∧
  ∀ i ∈ Region.ready .any b listed,wpOpIn (FW ρ) 0 P b Q i (fun c w'=>S (listed.setIfInBounds i true) w'∧AH ρ P b Q S fuel (listed.setIfInBounds i true) c w') a w
theorem B8z {i:Nat} {K K':Act→World→Prop} {a:Act} {w:World} (h:∀ a w,K a w→K' a w) (b:wpOpIn (FW ρ) 0 P ops Q i K a w):wpOpIn (FW ρ) 0 P ops Q i K' a w:=by
 unfold wpOpIn at *
 split
 ·rename_i c;simp only [c] at b;exact h _ _ b
 ·rename_i o c
  simp only [c] at b
  split
  ·rename_i d;simp only [d,if_true] at b;exact ⟨b.1,C2h h (fun _ _ _ h=>h) (fun h=>h) b.2⟩
  ·rename_i d;simp only [d] at b;exact ⟨b.1,h _ _ b.2⟩
theorem D8m {S:Array Bool→World→Prop}:∀ (c:Nat) (b:Array Bool) (a:Act) (w:World),AH ρ P ops Q S c b a w→wpAnyIn (FW ρ) 0 P .any ops Q c b a w
 | 0,_,_,_,h=>h
 | c+1,_,_,_,h=>⟨h.1,fun i d=>B8z (fun e w' f=>D8m c _ e w' f.2) (h.2 i d)⟩
theorem C7r {i:Nat} {o:Oper} {v:Value} {a:Act} (b:A4i ops=true) (d:ops[i]?=some o) (g:YieldsIf P ops S o v a)
  {K:Act→World→Prop} {w:World} (f:S w) (h:K (a.put o.dst v) w):wpOpIn (FW ρ) 0 P ops Q i K a w:=by
 unfold wpOpIn
 simp only [d]
 rcases g with ⟨c,e⟩ | ⟨c,rfl⟩
 ·simp only [c,if_true]
  refine A7c (C5s b d) ?_
  simp only [Oper.wp,e w f,Oper.upon];exact h
 ·simp only [c,Bool.false_eq_true,if_false];exact ⟨fun _ _=>trivial,h⟩
theorem D2f {j:Nat} {g oj:Oper} {v:Value} (a0:A4i ops=true) (hj:ops[j]?=some oj) (t:g.apart ops oj=true)
  (z:∀ cs b,g.op≠.select cs b) (y:∀ cs b,oj.op≠.select cs b)
  (hQ:∀ c a w,Q (.panic c) (a.put g.dst v) w→Q (.panic c) a w) {K:Act→World→Prop} {a:Act} {w:World}
  (k:YieldsIf P ops S g v a) (h:wpOpIn (FW ρ) 0 P ops Q j K (a.put g.dst v) w) :
  wpOpIn (FW ρ) 0 P ops Q j (fun a' w'=>YieldsIf P ops S g v a'∧K (a'.put g.dst v) w') a w:=by
 obtain ⟨h1,o,h3⟩:=Oper.apart_spec t
 have p:=C5s a0 hj
 have B7p:∀ (a:Act),YieldsIf P ops S g v a→∀ u,YieldsIf P ops S g v (a.put oj.dst u):=fun a k u =>
  k.of_same (execOp_put g z a oj.dst u h3) (wanted_put g a oj.dst u h3)
 have m:∀ d,YieldsIf P ops S g v {a with defers:=d::a.defers}:=fun d=>k.of_same rfl rfl
 unfold wpOpIn at *
 simp only [hj] at *
 rw [wanted_put oj a g.dst v h1] at h
 split
 ·rename_i hw
  simp only [hw,if_true] at h
  have q:∀ (b:Act),oj.semAt (FW ρ).round b.eval=execOp b.eval oj:=fun b=>Oper.semAt_eq _ _ _ (fun c hc=>by rw [hc] at p;cases p)
  refine ⟨fun _ _=>trivial,?_⟩
  obtain ⟨_,h⟩:=h
  rw [q] at h ⊢
  rw [execOp_put oj y a g.dst v h1] at h
  generalize (execOp a.eval oj).run P w=r at *
  cases r with
  | ok n w' =>
   cases n<;>simp only [Oper.uponIn] at h ⊢
   case value u=>exact ⟨B7p a k u,by rw [← Act.put_comm a v u o];exact h⟩
   case skip=>exact ⟨B7p a k _,by rw [← Act.put_comm a v undef o];exact h⟩
   case defer d =>
    refine ⟨B7p _ (m d) _,?_⟩
    rw [← Act.put_comm _ v undef o,← Act.put_defers]
    exact h
   case enter f args =>
    refine ⟨h.1,h.2.mono fun e s i=>?_⟩
    cases e with
    | returned u=>exact ⟨B7p a k u,by rw [← Act.put_comm a v u o];exact i⟩
    | panicked c=>exact hQ _ _ _ i
    | outgrown=>exact i
   case row row args=>exact ⟨h.1,h.2.mono fun u s i=>⟨B7p a k u,by rw [← Act.put_comm a v u o];exact i⟩⟩
   case round l f tmps assign body =>
    refine ⟨h.1,h.2.mono fun e s i=>?_⟩
    cases e with
    | returned u=>exact ⟨B7p a k u,by rw [← Act.put_comm a v u o];exact i⟩
    | panicked c=>exact hQ _ _ _ i
    | outgrown=>exact i
  | halt x w' =>
   cases x<;>simp only [Oper.uponIn] at h ⊢
   case panic u=>exact hQ _ _ _ h
 ·rename_i hw
  simp only [hw] at h
  exact ⟨fun _ _=>trivial,B7p a k _,by rw [← Act.put_comm a v undef o];exact h.2⟩
def C4l (a:Array Oper) (i e:Nat):Bool:=match a[e]? with
 | some o=>o.after.any fun d=>d.on == i&&Region.binds .any d
 | none=>false
theorem C5z {i e:Nat} {listed:Array Bool} (c:C4l ops i e=true) (f:listed.getD i true=false):e ∉ Region.ready .any ops listed:=by
 intro l
 obtain ⟨_,o,g,a⟩:=mem_ready.1 l
 unfold C4l at c
 rw [g] at c
 simp only [Array.any_eq_true',Bool.and_eq_true,beq_iff_eq] at c
 obtain ⟨d,h,j,k⟩:=c
 have b:=a d h k
 rw [j] at b
 rcases Nat.lt_or_ge i listed.size with h' | h'
 ·simp [h'] at f b;rw [f] at b;cases b
 ·simp [Array.getElem?_eq_none h'] at f
theorem D8c {S:Array Bool→World→Prop} {i:Nat} {s:Oper} {v:Value} (u:A4i ops=true) (hi:ops[i]?=some s) (r:∀ (j:Nat) (o:Oper) cs b,ops[j]?=some o→o.op≠.select cs b)
  (hQ:∀ c a w,Q (.panic c) (a.put s.dst v) w→Q (.panic c) a w) (Y:World→Prop) (t:∀ (d:Array Bool) w,S (d.setIfInBounds i true) w ↔ S d w) (hY:∀ d:Array Bool,(∀ e,C4l ops i e=true→d.getD e false=false)→∀ w,S d w→Y w) :
  ∀ (g:Nat) (d:Array Bool) (a:Act) (w:World),
   (∀ j x,ops[j]?=some x→j≠i→d.getD j true=false→(∀ e ∈ x.after,Region.binds .any e=true→e.on≠i)→s.apart ops x=true) →
   (∀ e,C4l ops i e=true→d.getD e false=false) →
   i ∈ Region.ready .any ops d→YieldsIf P ops Y s v a→S d w →
   AH ρ P ops Q S g (d.setIfInBounds i true) (a.put s.dst v) w→AH ρ P ops Q S (g+1) d a w:=by
 intro g
 induction g with
 | zero =>
  intro d a w _ f hr hy hS H
  refine ⟨fun h=>(by rw [h] at hr;cases hr),fun j hj=>?_⟩
  by_cases hji:j=i
  ·subst hji;exact C7r u hi hy (hY _ f _ hS) ⟨(t _ _).2 hS,H⟩
  ·have:=ready_mono hj hji
   rw [H.1] at this
   cases this
 | succ g ih =>
  intro d a w m f hr hy hS H
  refine ⟨fun h=>(by rw [h] at hr;cases hr),fun j hj=>?_⟩
  by_cases hji:j=i
  ·subst hji;exact C7r u hi hy (hY _ f _ hS) ⟨(t _ _).2 hS,H⟩
  ·have h1:=H.2 j (ready_mono hj hji)
   obtain ⟨q,x,z,a5⟩:=mem_ready.1 hj
   have l:=(mem_ready.1 hr).1
   have a7:∀ e ∈ x.after,Region.binds .any e=true→e.on≠i:=fun e he hb ad=>by
    have h1:=a5 e he hb
    rw [ad] at h1
    rcases Nat.lt_or_ge i d.size with h' | h'
    ·simp [h'] at l h1;rw [l] at h1;cases h1
    ·simp [Array.getElem?_eq_none h'] at l
   have h2:=D2f u z (m j x z hji q a7) (fun cs b=>r i s cs b hi) (fun cs b=>r j x cs b z) hQ hy h1
   have n:∀ k ok,ops[k]?=some ok→k≠i→(d.setIfInBounds j true).getD k true=false →
     (∀ e ∈ ok.after,Region.binds .any e=true→e.on≠i)→s.apart ops ok=true:=fun k ok hk ac a3 aa=>by
    refine m k ok hk ac ?_ aa
    by_cases hjk:j=k
    ·subst hjk;exact q
    ·rw [getD_set_ne true hjk] at a3;exact a3
   have p:∀ e,C4l ops i e=true→(d.setIfInBounds j true).getD e false=false:=fun e he=>by
    by_cases hje:j=e
    ·subst hje;exact absurd hj (C5z he l)
    ·rw [getD_set_ne false hje];exact f e he
   refine B8z (fun a' w' h3=>?_) h2
   obtain ⟨y,hs,hh⟩:=h3
   rw [Array.setIfInBounds_comm _ _ (Ne.symm hji)] at hs hh
   have a1:=(t _ _).1 hs
   exact ⟨a1,ih (d.setIfInBounds j true) a' w' n p (ready_mono hr (Ne.symm hji)) y a1 hh⟩
end
section
variable {P:Program} {n:Nat} {X:Cx} {K:Act→World→Prop} {Q:Exit→Act→World→Prop} {E E':Env} {L L' Ls:Own} {Φ Φ' Φs:List Pers}
def oN (K:Act→World→Prop):Exit→Act→World→Prop
 | .normal,a,w=>K a w
 | _,_,_=>False
abbrev A0z:=List (Nat×Own)
def A0z.at (b:A0z) (a:Array Bool):Own:=((b.filter fun p=>!(a.getD p.1 false)).map (·.2)).flatten
def A0z.of (a:A0z) (b:Array Oper) (i:Nat):Own:=((a.filter fun p=>C4l b i p.1||!(Nat.blt p.1 b.size)).map (·.2)).flatten
theorem C2k {α:Type} {l b:List (List α)} (h:l.Sublist b):l.flatten.Sublist b.flatten:=by
 induction h with
 | slnil=>exact List.Sublist.slnil
 | cons a _ ih=>rw [List.flatten_cons];exact ih.trans (List.sublist_append_right _ _)
 | cons_cons a _ ih=>rw [List.flatten_cons,List.flatten_cons];exact (List.Sublist.refl _).append ih
theorem C3j {α:Type} {p q:α→Bool}:∀ (l:List α),(∀ x ∈ l,p x=true→q x=true)→(l.filter p).Sublist (l.filter q)
 | [],_=>List.Sublist.slnil
 | x::l,h=>by
  have a:=C3j l fun y b=>h y (List.mem_cons_of_mem _ b)
  rw [List.filter_cons,List.filter_cons]
  by_cases hp:p x=true
  ·rw [if_pos hp,if_pos (h x (List.mem_cons_self ..) hp)];exact a.cons_cons x
  ·rw [if_neg hp]
   split
   ·exact a.cons x
   ·exact a
theorem A0z.of_at {c:A0z} {b:Array Oper} {i:Nat} {a:Array Bool} (g:a.size≤b.size) (h:∀ e,C4l b i e=true→a.getD e false=false):(c.of b i).Sublist (c.at a):=by
 refine C2k ((C3j _ fun x _ d=>?_).map _)
 simp only [Bool.or_eq_true,Bool.not_eq_true'] at d ⊢
 rcases d with d | d
 ·exact h _ d
 ·have:¬ x.1<b.size:=fun f=>by have:=Nat.ble_eq_true_of_le f;unfold Nat.blt at d;rw [d] at this;cases this
  simp [Array.getElem?_eq_none (show a.size≤x.1 by omega)]
theorem A0z.at_set {a:A0z} {i:Nat} {listed:Array Bool} (h:a.all (fun p=>!(p.1 == i))=true):a.at (listed.setIfInBounds i true)=a.at listed:=by
 unfold A0z.at
 congr 2
 refine List.filter_congr fun x c=>?_
 have:=List.all_eq_true.1 h x c
 have b:i≠x.1:=by simp at this;exact fun e=>this e.symm
 rw [getD_set_ne false b]
structure JH (P:Program) (n:Nat) (X:Cx) (ops:Array Oper) (fuel:Nat) (listed:Array Bool) (K:Act→World→Prop) (held:A0z) (Φs:List Pers) (E:Env) (L:Own) (Φ:List Pers):Prop where
 go:A4i ops=true→Region.noSelect ops=true→listed.size=ops.size→(held.at listed).Sublist L→B0 Φ Φs→∀ a w,St n X E L Φ a w→AH X.rho P ops (oN K) (fun l w=>l.size=ops.size∧StW X (held.at l) Φs w) fuel listed a w
theorem D8r {id:Nat} {b:Array Oper} (m:Nat) (c:A0z) (Φs:List Pers) (i:P.follows .mixedOrders=true) (g:b.size=m) (f:(A4i b&&Region.noSelect b)=true) (j:(c.at (Array.replicate m false)).Sublist L) (hΦ:B0 Φ Φs)
  (h:JH P n X b m (Array.replicate m false) (Q .normal) c Φs E L Φ):J P n X (.region id b true) Q E L Φ:=fun a w d=>by
 simp only [Bool.and_eq_true] at f
 refine Code.wpIn_mono (Q:=oN (Q .normal)) (fun e a w q=>by cases e<;>first|exact q|exact q.elim) ?_
 refine wpIn_region_any i (D8m (S:=fun l w=>l.size=b.size∧StW X (c.at l) Φs w) _ _ _ _ ?_)
 subst g
 exact h.go f.1 f.2 oom j hΦ a _ ⟨d.size,d.defers,d.has,d.world.drawn _⟩
def B0o (b:Array Oper) (c:A0z) (a:Array Bool) (i:Nat):Bool:=Region.free .any b a i&&(Region.ready .any b a).contains i&&(c.all (fun p=>!(p.1 == i)))&&(List.range b.size).all fun e=>!(C4l b i e)||!(a.getD e false)
theorem D9h {a:Array Oper} {i e:Nat} (h:C4l a i e=true):e<a.size:=by
 unfold C4l at h
 split at h
 ·rename_i o b;exact (Array.getElem?_eq_some_iff.1 b).1
 ·cases h
theorem D1k {d:Array Oper} {g:Nat} {b:Array Bool} {f:A0z} (i:Nat) {o:Oper} {v:Value} {Ls:Own} (m:d[i]?=some o) (u:X1 n o.dst=true) (s:B0o d f b i=true) (k:f.of d i=Ls)
  (y:∀ a,Has a E→YieldsIf P d (StW X Ls Φs) o v a) (h:JH P n X d g (b.setIfInBounds i true) K f Φs (Env.put E o.dst v) L Φ):JH P n X d (g+1) b K f Φs E L Φ :=
 ⟨fun h1 h2 hsz hL hΦ a w hs=>by
  simp only [B0o,Bool.and_eq_true] at s
  obtain ⟨⟨⟨z,t2⟩,p⟩,x⟩:=s
  have j:∀ e,C4l d i e=true→b.getD e false=false:=fun e q=>by
   have:=List.all_eq_true.1 x e (List.mem_range.2 (D9h q))
   rw [q] at this;simpa using this
  refine D8c (Y:=StW X Ls Φs) h1 m (Region.noSelect_spec h2) (fun c a w t=>t) (fun l w=>by rw [A0z.at_set p];simp) (fun l hl w r=>?_) g b a w (Region.free_spec m z) j (by simpa using t2) (y a hs.has) ⟨hsz,(hs.world.sub hL).foll hΦ⟩ (h.go h1 h2 (by simpa using hsz) (by rw [A0z.at_set p];exact hL) hΦ _ w (hs.put u v hs.world))
  exact r.2.sub (k▸A0z.of_at (Nat.le_of_eq r.1) hl)⟩
theorem D8y {d:Array Oper} {e:Nat} {b:Array Bool} {c:A0z} (i:Nat) {o:Oper} (f:d[i]?=some o) (k:B0l d o E=some false) (g:X1 n o.dst=true) (j:B0o d c b i=true)
  (h:JH P n X d e (b.setIfInBounds i true) K c Φs (Env.put E o.dst undef) L Φ):JH P n X d (e+1) b K c Φs E L Φ :=
 D1k i f g j rfl (fun a l=>.inr ⟨A0o l k,rfl⟩) h
theorem D4a {d:Array Oper} {e:Nat} {b:Array Bool} {c:A0z} (i:Nat) {o:Oper} {v:Value} (Ls:Own) (j:d[i]?=some o) (l:B0l d o E=some true) (m:X1 n o.dst=true) (q:B0o d c b i=true) (f:c.of d i=Ls)
  (p:G7 P X o E Ls Φs v) (h:JH P n X d e (b.setIfInBounds i true) K c Φs (Env.put E o.dst v) L Φ):JH P n X d (e+1) b K c Φs E L Φ :=
 D1k i j m q f (fun a g=>.inl ⟨A0o g l,fun w k=>p a w g k⟩) h
theorem D7i {c:Array Oper} {e:Nat} {b:Array Bool} {d:A0z} (i:Nat) {o:Oper} {α:Type} {val:α→Value} {L':α→Own} {Φ':α→List Pers} (m:c[i]?=some o) (q:B0l c o E=some true) (r:X1 n o.dst=true)
  (t:Tri P n X o E L Φ α val L' Φ') (j:∀ x,(d.at (b.setIfInBounds i true)).Sublist (L' x)) (hΦ':∀ x,B0 (Φ' x) Φs) (h:∀ x,JH P n X c e (b.setIfInBounds i true) K d Φs (Env.put E o.dst (val x)) (L' x) (Φ' x)) :
  ∀ a w,St n X E L Φ a w→A4i c=true→Region.noSelect c=true→b.size=c.size→wpOpIn (FW X.rho) 0 P c (oN K) i (fun p w'=>((b.setIfInBounds i true).size=c.size∧StW X (d.at (b.setIfInBounds i true)) Φs w')∧AH X.rho P c (oN K) (fun l w=>l.size=c.size∧StW X (d.at l) Φs w) e (b.setIfInBounds i true) p w') a w:=fun a w k s u g=>by
 unfold wpOpIn
 simp only [m]
 rw [if_pos (A0o k.has q)]
 exact t a w _ _ k fun x w' f=>⟨⟨by simpa using g,(f.sub (j x)).foll (hΦ' x)⟩,(h x).go s u (by simpa using g) (j x) (hΦ' x) _ _ (k.put r _ f)⟩
theorem E1l {d:Array Oper} {e:Nat} {b:Array Bool} {c:A0z} (i:Nat) {o:Oper} {α:Type} {val:α→Value} {L':α→Own} {Φ':α→List Pers} (l:d[i]?=some o) (m:B0l d o E=some true) (p:X1 n o.dst=true) (hr:Region.ready .any d b=[i])
  (q:Tri P n X o E L Φ α val L' Φ') (f:∀ x,(c.at (b.setIfInBounds i true)).Sublist (L' x)) (hΦ':∀ x,B0 (Φ' x) Φs) (h:∀ x,JH P n X d e (b.setIfInBounds i true) K c Φs (Env.put E o.dst (val x)) (L' x) (Φ' x)):JH P n X d (e+1) b K c Φs E L Φ :=
 ⟨fun h1 h2 hsz hL hΦ a w hs=>by
  refine ⟨fun g=>(by rw [hr] at g;cases g),fun j k=>?_⟩
  rw [hr] at k
  obtain rfl:j=i:=by simpa using k
  exact D7i j l m p q f hΦ' h a w hs h1 h2 hsz⟩
theorem A6t {c:Array Oper} {e:Nat} {b:Array Bool} {d:A0z} (i k:Nat) (hr:Region.ready .any c b=[i,k])
  (p:∀ a w,St n X E L Φ a w→A4i c=true→Region.noSelect c=true→b.size=c.size→wpOpIn (FW X.rho) 0 P c (oN K) i (fun f w'=>((b.setIfInBounds i true).size=c.size∧StW X (d.at (b.setIfInBounds i true)) Φs w')∧AH X.rho P c (oN K) (fun l w=>l.size=c.size∧StW X (d.at l) Φs w) e (b.setIfInBounds i true) f w') a w)
  (o:∀ a w,St n X E L Φ a w→A4i c=true→Region.noSelect c=true→b.size=c.size→wpOpIn (FW X.rho) 0 P c (oN K) k (fun f w'=>((b.setIfInBounds k true).size=c.size∧StW X (d.at (b.setIfInBounds k true)) Φs w')∧AH X.rho P c (oN K) (fun l w=>l.size=c.size∧StW X (d.at l) Φs w) e (b.setIfInBounds k true) f w') a w):JH P n X c (e+1) b K d Φs E L Φ :=
 ⟨fun h1 h2 hsz hL hΦ a w hs=>by
  refine ⟨fun m=>(by rw [hr] at m;cases m),fun j g=>?_⟩
  rw [hr] at g
  simp only [List.mem_cons,List.not_mem_nil,or_false] at g
  rcases g with rfl | rfl
  ·exact p a w hs h1 h2 hsz
  ·exact o a w hs h1 h2 hsz⟩
theorem A0b {e:Array Oper} {c:Nat} {b:Array Bool} {d:A0z} (hr:Region.ready .any e b=[]) (h:JQ n X K E L Φ):JH P n X e c b K d Φs E L Φ :=
 ⟨fun _ _ _ _ _ a w j=>by
  cases c with
  | zero=>exact ⟨hr,h a w j⟩
  | succ f=>exact ⟨fun _=>h a w j,fun i g=>by rw [hr] at g;cases g⟩⟩
theorem E1f {e:Array Oper} {d:Nat} {b:Array Bool} {c:A0z} (hE:∀ a,Has a E→Has a E') (h:JH P n X e d b K c Φs E' L Φ):JH P n X e d b K c Φs E L Φ :=
 ⟨fun h1 h2 hsz hL hΦ a w hs=>h.go h1 h2 hsz hL hΦ a w ⟨hs.size,hs.defers,hE a hs.has,hs.world⟩⟩
theorem D6i {e:Array Oper} {d:Nat} {b:Array Bool} {c:A0z} (t:Nat) (g:Bool) (f:E.lookup t=some (.bool g)) (i:g=true→JH P n X e d b K c Φs ((t,.bool true)::E) L Φ) (j:g=false→JH P n X e d b K c Φs ((t,.bool false)::E) L Φ):JH P n X e d b K c Φs E L Φ:=by
 refine ⟨fun a1 a2 a3 hL hΦ a w hs=>?_⟩
 cases hg:g with
 | true=>exact (i hg).go a1 a2 a3 hL hΦ a w ⟨hs.size,hs.defers,hs.has.lit f hg,hs.world⟩
 | false=>exact (j hg).go a1 a2 a3 hL hΦ a w ⟨hs.size,hs.defers,hs.has.lit f hg,hs.world⟩
def B0u (P:Program) (n:Nat) (a:Array Oper) (b:A0z):List Nat→Array Bool→Env→Option (Array Bool×Env)
 | [],listed,E=>some (listed,E)
 | i::is,listed,E=>match a[i]? with
  | some o=>if B0o a b listed i then match A9j P n a o E with
    | some E'=>B0u P n a b is (listed.setIfInBounds i true) E'
    | none=>none
   else none
  | none=>none
theorem D6n {g:Array Oper} {e:A0z}:∀ (is:List Nat) {d:Nat} {c b:Array Bool} {E R:Env},B0u P n g e is c E=some (b,R)→JH P n X g d b K e Φs R L Φ→JH P n X g (is.length+d) c K e Φs E L Φ
 | [],d,c,b,E,R,h,k=>by
  simp only [B0u,Option.some.injEq,Prod.mk.injEq] at h
  obtain ⟨rfl,rfl⟩:=h
  simpa using k
 | i::is,d,c,b,E,R,h,k=>by
  unfold B0u at h
  rw [List.length_cons,Nat.add_right_comm]
  split at h
  ·rename_i o l
   split at h
   ·rename_i m
    split at h
    ·rename_i E1 f
     have p:=D6n is h k
     unfold A9j at f
     split at f
     ·rename_i hr j
      split at f
      ·rename_i v q
       simp only [Option.some.injEq] at f;subst f
       exact D4a i _ l hr j m rfl (fun a w r _=>C5b q a w r) p
      ·cases f
     ·rename_i hr j
      simp only [Option.some.injEq] at f;subst f
      exact D8y i l hr j m p
     ·cases f
    ·cases h
   ·cases h
  ·cases h
def C8b (a:Array Oper) (E b:Env):List Nat→Bool
 | []=>true
 | i::is=>(match (a[i]?).bind (·.dst) with
  | some d=>B2z b d||!B2z E d
  | none=>true)&&C8b a E b is
theorem C2a {f:Array Oper} {b:A0z} {c:Env} {t:Nat} {v:Value} (E0:Env) (k:E0.lookup t=some v) (m:c.lookup t=none):∀ (is:List Nat) {l g:Array Bool} {E R:Env},C8b f E0 c is=true→B0u P n f b is l E=some (g,R)→E.lookup t=some v→R.lookup t=some v
 | [],l,g,E,R,_,h,he=>by simp only [B0u,Option.some.injEq,Prod.mk.injEq] at h;obtain ⟨_,rfl⟩:=h;exact he
 | i::is,l,g,E,R,hk,h,he=>by
  unfold B0u at h
  unfold C8b at hk
  simp only [Bool.and_eq_true] at hk
  split at h
  ·rename_i o p
   split at h
   ·split at h
    ·rename_i E1 a
     refine C2a E0 k m is hk.2 h ?_
     have j:o.dst≠some t:=by
      intro j
      have:=hk.1
      simp only [p,Option.bind_some,j,B2z,m,k] at this
      simp at this
     have put:∀ u,(Env.put E o.dst u).lookup t=some v:=by
      intro u
      cases hdst:o.dst with
      | none=>exact he
      | some d =>
       have:(t == d)=false:=by simp;intro e;exact j (by rw [hdst,e])
       simp only [Env.put,List.lookup,this];exact he
     unfold A9j at a
     split at a
     ·split at a
      ·simp only [Option.some.injEq] at a;subst a;exact put _
      ·cases a
     ·simp only [Option.some.injEq] at a;subst a;exact put _
     ·cases a
    ·cases h
   ·cases h
  ·cases h
def D7n (P:Program) (n:Nat) (c:Array Oper) (b:A0z) (is:List Nat) (a:Array Bool) (E d:Env):Option (Array Bool×Env) :=
 if C8b c E d is then match B0u P n c b is a E with
  | some (l,R)=>match B7p R d with
   | some R'=>some (l,R')
   | none=>none
  | none=>none
 else none
theorem E4m {k:Array Oper} {d:A0z} (is:List Nat) (f:Nat) {c:Array Bool} (b:Array Bool) (j:Env) (h:D7n P n k d is c E j=some (b,j)) (g:JH P n X k f b K d Φs (j++E) L Φ):JH P n X k (is.length+f) c K d Φs E L Φ:=by
 unfold D7n at h
 split at h
 ·rename_i p
  split at h
  ·rename_i l R hR
   split at h
   ·rename_i R' i
    simp only [Option.some.injEq,Prod.mk.injEq] at h
    obtain ⟨rfl,rfl⟩:=h
    refine D6n is hR (E1f (fun a o t v e=>?_) g)
    rw [B1h] at e
    split at e
    ·rename_i u m
     exact (o.weaken (Q7 (B5t i))) t v (by rw [m];exact e)
    ·rename_i m
     exact o t v (C2a E e m is p hR e)
   ·cases h
  ·cases h
 ·cases h
theorem E3v {d:Array Oper} {e:Nat} {a:Array Bool} {c:A0z} (i:Nat) {o:Oper} {v:Value} (Ls:Own) (b:Array Bool) (g:d[i]?=some o) (m:B0l d o E=some true) (j:X1 n o.dst=true) (k:B0o d c a i=true) (f:c.of d i=Ls) (p:a.setIfInBounds i true=b)
  (l:G7 P X o E Ls Φs v) (h:JH P n X d e b K c Φs (Env.put E o.dst v) L Φ):JH P n X d (e+1) a K c Φs E L Φ:=D4a i Ls g m j k f l (p▸h)
theorem hone {d:Array Oper} {e:Nat} {b:Array Bool} {c:A0z} (i:Nat) {o:Oper} {α:Type} {val:α→Value} {L':α→Own} {Φ':α→List Pers} (Lh:Own) (a:Array Bool) (g:d[i]?=some o) (k:B0l d o E=some true) (l:X1 n o.dst=true) (hr:Region.ready .any d b=[i])
  (p:b.setIfInBounds i true=a) (j:c.at a=Lh) (m:Tri P n X o E L Φ α val L' Φ') (f:∀ x,Lh.Sublist (L' x)) (hΦ':∀ x,B0 (Φ' x) Φs) (h:∀ x,JH P n X d e a K c Φs (Env.put E o.dst (val x)) (L' x) (Φ' x)):JH P n X d (e+1) b K c Φs E L Φ:=by
 subst p j
 exact E1l i g k l hr m f hΦ' h
theorem sh {id:Nat} {c:Array Oper} {y:Code} (m:Nat) (b:A0z) (Φs:List Pers) (Lh:Own) (d:Array Bool) (f:P.follows .mixedOrders=true) (e:c.size=m) (j:(A4i c&&Region.noSelect c)=true) (k:Array.replicate m false=d) (g:b.at d=Lh) (i:Lh.Sublist L) (hΦ:B0 Φ Φs)
  (h:JH P n X c m d (fun a w=>y.wpIn (FW X.rho) 0 P Q a w) b Φs E L Φ):J P n X (.seq (.region id c true) y) Q E L Φ:=by
 subst k g
 exact A5 (D8r m b Φs f e j i hΦ h)
theorem sh' {id:Nat} {b:Array Oper} (m:Nat) (a:A0z) (Φs:List Pers) (Lh:Own) (c:Array Bool) (e:P.follows .mixedOrders=true) (d:b.size=m) (i:(A4i b&&Region.noSelect b)=true) (j:Array.replicate m false=c) (f:a.at c=Lh) (g:Lh.Sublist L) (hΦ:B0 Φ Φs)
  (h:JH P n X b m c (Q .normal) a Φs E L Φ):J P n X (.region id b true) Q E L Φ:=by
 subst j f
 exact D8r m a Φs e d i g hΦ h
theorem A3w {e:Array Oper} {d:Nat} {b:Array Bool} {c:A0z} {y:Code} (hr:Region.ready .any e b=[]) (h:J P n X y Q E L Φ):JH P n X e d b (fun a w=>y.wpIn (FW X.rho) 0 P Q a w) c Φs E L Φ:=A0b hr h
end
end Go.Fen
set_option linter.unusedVariables false
set_option linter.unusedSimpArgs false
namespace Go.Fen
open Go Go.RowKit
set_option linter.unusedSimpArgs false
set_option linter.unusedVariables false
section
variable {P:Program} {n:Nat} {X:Cx} {K:Act→World→Prop} {Q:Exit→Act→World→Prop} {E E':Env} {L L':Own} {Φ Φ':List Pers}
theorem StW.perm {w:World} (h:StW X L Φ w) (b:L.Perm L'):StW X L' Φ w :=
 let ⟨p,q⟩:=h;⟨p,⟨q.facts,q.sub,q.le,q.dom,⟨fun e a=>q.own.1 e (b.symm.subset a),(b.map Prod.fst).nodup_iff.1 q.own.2⟩,fun e a=>q.may e (b.symm.subset a),q.kept,fun d c=>let ⟨h1,h2,h3,h4⟩:=q.res d c;⟨h1,h2,fun e a=>h3 e (b.symm.subset a),h4⟩⟩⟩
theorem C3n {α:Type} (a b c:List α):(a++(b++c)).Perm (b++(a++c)):=by
 rw [← List.append_assoc,← List.append_assoc]
 exact List.perm_append_comm.append_right c
theorem StW.turn {pre L0 L1 post:Own} {w w':World} (h:StW X (pre++(L0++post)) Φ w) (j:KeptBut (L0.map Prod.fst) w w') (g:∀ e ∈ L1,w'.heap[e.1]?=some e.2∧(e.1 ∈ L0.map Prod.fst∨w.heap.size≤e.1)) (m:(L1.map Prod.fst).Nodup) :
  StW X (pre++(L1++post)) Φ w':=by
 obtain ⟨p,f⟩:=h
 have a:∀ b ∈ L0.map Prod.fst,p b=none:=fun b i=>by
  obtain ⟨e,c,rfl⟩:=List.mem_map.1 i
  exact (f.own.1 e (List.mem_append_right _ (List.mem_append_left _ c))).2
 have l:StW (cx w p (L0.map Prod.fst)) L1 [] w':=by
  refine ⟨p,⟨fun q n=>(by cases n),fun b o e=>?_,Hp.le_refl p,fun b i=>.inl i,⟨fun e c=>⟨(g e c).1,?_⟩,m⟩,fun e c=>(g e c).2,j,fun d r=>(by cases r)⟩⟩
  ·rw [j.block b (Hp.lt f.sub e) (fun s=>by rw [a b s] at e;cases e)];exact f.sub b o e
  ·rcases (g e c).2 with k | k
   ·exact a _ k
   ·cases h3:p e.1 with
    | none=>rfl
    | some o=>have:=Hp.lt f.sub h3;omega
 have:=StW.call (L0:=L0) (L2:=pre++post) f (C3n _ _ _) l
 exact (this.foll fun _ h=>by simpa using h).perm (C3n _ _ _).symm
structure VR where
 q:Option Nat
 k:Nat
 j:List Value
def va (q:Option Nat):Option Addr:=match q with | none=>none | some b=>some ⟨b,0,none⟩
def VOk (sz n:Nat) (r:VR):Prop:=match r.q with
 | none=>n=0∧r.k=0
 | some _=>n * sz+r.j.length=r.k * sz∧n≤r.k∧r.k≤maxLen
def vo {α:Type} (c:α→List Value) (T:Nat) (r:VR) (xs:List α):Own:=match r.q with
 | none=>[]
 | some b=>[bx b (xs.flatMap c++r.j) T]
abbrev vv (r:VR) (n:Nat):Value:=.slice (va r.q) n r.k
def VR.nil:VR:=⟨none,0,[]⟩
theorem VOk.nil {sz:Nat}:VOk sz 0 VR.nil:=⟨rfl,rfl⟩
theorem VOk.some {sz n:Nat} {r:VR} (h:VOk sz n r) (c:0<n):∃ b,r.q=Option.some b:=by
 unfold VOk at h
 split at h
 ·omega
 ·rename_i b a;exact ⟨b,a⟩
theorem VOk.cast {sz n m:Nat} {r:VR} (h:VOk sz n r) (a:n=m):VOk sz m r:=a▸h
structure ApTy (P:Program) (T e sz by':Nat):Prop where
 ty:P.underlying T=some (.slice e)
 info:(P.info? e).map (fun i=>(i.size,i.bytes,i.zero.map (·.cells.size)))=some (sz,by',some sz)
 pos:Nat.blt 0 sz=true
theorem F5 {α:Type} {c:α→List Value} {sz:Nat} (a:∀ x,(c x).length=sz):∀ xs:List α,(xs.flatMap c).length=xs.length * sz
 | []=>by simp
 | x::xs=>by rw [List.flatMap_cons,List.length_append,a,F5 a xs,List.length_cons,Nat.succ_mul];omega
theorem B4p {α:Type} {c:α→List Value} (a:∀ x,(c x).all (·.oneCell')=true) (xs:List α):∀ u ∈ xs.flatMap c,u.oneCell'=true:=fun u b=>by
 obtain ⟨x,_,h⟩:=List.mem_flatMap.1 b
 exact List.all_eq_true.1 (a x) u h
theorem C3w {T e sz v ty:Nat} (hT:ApTy P T e sz v) {α:Type} {f:α→List Value} (hf:∀ x,(f x).length=sz) (af:∀ x,(f x).all (·.oneCell')=true) {r:VR} {xs ys:List α} {pre post:Own} {w:World} {a:Addr} {m cc:Nat} (hm:m=ys.length)
  (hw:StW X (pre++(vo f e r xs++post)) Φ w) (hq:R0 Φ (sl f (some a) ys)) (c:VOk sz xs.length r) (hb:(xs.length+ys.length) * v≤140737488355328) (ak:xs.length+ys.length≤maxLen) :
  ∃ r' w',(Builtin.append_ #[T,T] ty #[vv r xs.length,.slice (some a) m cc]).run P w=.ok (vv r' (xs.length+ys.length)) w'∧VOk sz (xs.length+ys.length) r'∧StW X (pre++(vo f e r' (xs++ys)++post)) Φ w':=by
 obtain ⟨i,hi,o⟩:=Option.map_eq_some_iff.1 hT.info
 simp only [Prod.mk.injEq] at o
 obtain ⟨h4,h5,h6⟩:=o
 obtain ⟨z,hz,h6⟩:=Option.map_eq_some_iff.1 h6
 obtain ⟨p,hp⟩:=hw
 have l:A5k p a (ys.flatMap f):=hq p hp.facts
 have a7:0<sz:=by simpa [Nat.blt_eq] using hT.pos
 have a6:w.ownsRow 0 e sz (vv r xs.length) xs.length (xs.flatMap f):=by
  refine ⟨F5 hf xs,?_⟩
  unfold VOk at c
  split at c
  ·rename_i n
   refine .inl ⟨?_,c.1⟩
   unfold vv va
   rw [n,c.1,c.2]
  ·rename_i b n
   refine .inr ⟨b,r.k,(xs.flatMap f++r.j).toArray,?_,Nat.zero_le _,?_,c.2.1,c.2.2,?_,?_⟩
   ·unfold vv va;rw [n]
   ·have:=hp.own.1 (bx b (xs.flatMap f++r.j) e) (List.mem_append_right _ (List.mem_append_left _ (by unfold vo;rw [n];simp)))
    exact this.1
   ·simp only [List.size_toArray,List.length_append,F5 hf];exact c.1
   ·rw [← F5 hf xs];simp
 obtain ⟨v',w',s,h,hg,a9,y⟩:=run_append_own_at (P:=P) w 0 T ty e i z sz v hT.ty hi hz h4 h5 h6 a7 (vv r xs.length) xs.length (xs.flatMap f) a6 a m cc (ys.flatMap f)
  (by rw [F5 hf,hm]) (fun j u hj=>l.cell hp.sub hj) (B4p af ys) (by rw [hm];exact ak) (by rw [hm];exact hb) (Nat.zero_le _)
 rw [hm] at h a9
 have d:(vo f e r xs).map Prod.fst=r.q.toList:=by unfold vo;split<;>simp_all
 have t:(vv r xs.length).ownBlock=r.q:=by unfold vv va Value.ownBlock;cases r.q<;>rfl
 have hk:KeptBut ((vo f e r xs).map Prod.fst) w w':=⟨hg.os,hg.tape,hg.output,hg.size,fun k hk ao=>hg.block k hk (fun e'=>ao (by rw [d];rw [t] at e';rw [← e'];simp))⟩
 obtain ⟨ap,al⟩:=h
 rcases al with ⟨rfl,a8⟩ | ⟨g,cap,cur,rfl,_,a1,a5,a3,ai,a0⟩
 ·refine ⟨VR.nil,w',?_,?_,?_⟩
  ·rw [s,a8];rfl
  ·rw [a8];exact VOk.nil
  ·exact StW.turn ⟨p,hp⟩ hk (by intro e he;cases he) List.nodup_nil
 ·refine ⟨⟨some g,cap,cur.toList.drop ((xs.length+ys.length) * sz)⟩,w',?_,?_,?_⟩
  ·rw [s];rfl
  ·refine ⟨?_,a5,a3⟩
   have:(xs.length+ys.length) * sz≤cap * sz:=Nat.mul_le_mul_right _ a5
   simp only [List.length_drop,Array.length_toList,ai];omega
  ·refine StW.turn ⟨p,hp⟩ hk (L1:=[bx g ((xs++ys).flatMap f++cur.toList.drop ((xs.length+ys.length) * sz)) e]) ?_ oom
   intro e' he
   obtain rfl:e'=_:=by simpa using he
   refine ⟨?_,?_⟩
   ·simp only
    rw [a1,← List.append_assoc,← a0,List.take_append_drop]
   ·rcases y with h1 | h1
    ·refine .inl ?_
     rw [d]
     rw [t] at h1
     rw [← h1];simp [Value.ownBlock]
    ·simp [Value.ownBlock] at h1
     exact .inr (by simp only;omega)
theorem D3j {o:Oper} {c:Call} {T e sz d:Nat} {x y:Operand} {α:Type} {f:α→List Value} {r:VR} {xs ys:List α} {a:Addr} {m cc:Nat} {pre post:Own} (hT:ApTy P T e sz d) (hf:∀ x,(f x).length=sz) (i:∀ x,(f x).all (·.oneCell')=true)
  (t:o.op=.call c) (hc:c.callee=.builtin .append) (s:c.args=#[x,y]) (k:c.argTypes=#[T,T]) (hx:ev E x=some (vv r xs.length)) (hy:ev E y=some (.slice (some a) m cc)) (hm:m=ys.length) (hL:L=pre++(vo f e r xs++post))
  (v:R0 Φ (sl f (some a) ys)) (p:VOk sz xs.length r) (hb:(xs.length+ys.length) * d≤140737488355328) (j:xs.length+ys.length≤9223372036854775807) :
  Tri P n X o E L Φ {b:VR // VOk sz (xs.length+ys.length) b} (fun b=>vv b.1 (xs.length+ys.length)) (fun b=>pre++(vo f e b.1 (xs++ys)++post)) (fun _=>Φ):=by
 intro z w K Q q hk
 have u:=q.world
 rw [hL] at u
 obtain ⟨b,w',g,h,l⟩:=C3w (ty:=o.type) hT hf i (cc:=cc) hm u v p hb j
 refine A7c (by rw [t];rfl) ?_
 unfold Oper.wp
 rw [show (execOp z.eval o).run P w=.ok (.value (vv b (xs.length+ys.length))) w' by
  simp [execOp,t,resolve,hc,s,k,C4 q.has hx,C4 q.has hy,invoke,builtin,g]]
 exact hk ⟨b,h⟩ w' l
theorem C5t {o:Oper} {T e sz b:Nat} {x y:Operand} {a cap:Nat} {m:Int} (i:SlTy P T e sz) (c:o.op=.indexAddr T x y)
  (f:ev E x=some (.slice (some ⟨b,0,none⟩) a cap)) (h:ev E y=some (.int .i64 m)) (k:Nat) (g:m=k) (d:k<a):G7 P X o E L Φ (.pointer (some ⟨b,k * sz,none⟩)):=by
 have:=D7s (X:=X) (L:=L) (Φ:=Φ) i c f h k g d
 rwa [Z4,Nat.zero_add] at this
theorem E0d {α:Type} {c:α→List Value} {sz:Nat} (b:∀ x,(c x).length=sz) {xs:List α} {j:List Value} {k:Nat} {v:α} (a:xs[k]?=some v) {f:Nat} {u:Value} (d:(c v)[f]?=some u):(xs.flatMap c++j)[k * sz+f]?=some u:=by
 have:=B0z b a f u d
 rw [List.getElem?_append_left (List.getElem?_eq_some_iff.1 this).1];exact this
theorem D0s {o:Oper} {T b off TT sz:Nat} {x:Operand} {α:Type} {c:α→List Value} {xs:List α} {j:List Value} {v:α} {u:Value} (n:Ty P T 1 false) (h:∀ x,(c x).length=sz) (e:o.op=.load T x) (g:ev E x=some (.pointer (some ⟨b,off,none⟩))) (i:Nat)
  (l:L[i]?=some (bx b (xs.flatMap c++j) TT)) (k f:Nat) (a:off=k * sz+f) (d:xs[k]?=some v) (m:(c v)[f]?=some u):G7 P X o E L Φ u :=
 A7 n e g i l (by rw [a];exact E0d h d m)
theorem C7a (A R us:List Value) (f:Nat) (h:f+us.length≤A.length):A0q (A++R) us f=A0q A us f++R:=by
 unfold A0q
 rw [List.take_append_of_le_length opx,List.drop_append_of_le_length h]
 simp [List.append_assoc]
theorem C1y {α:Type} {c:α→List Value} {sz:Nat} (d:∀ x,(c x).length=sz):∀ {xs:List α} {k:Nat} {v b:α} {us:List Value} {f:Nat},xs[k]?=some v→f+us.length≤sz→A0q (c v) us f=c b→∀ j:List Value,
  A0q (xs.flatMap c++j) us (k * sz+f)=(xs.set k b).flatMap c++j
 | [],k,v,b,us,f,h,_,_,_=>by cases h
 | x::xs,0,v,b,us,f,h,hl,hp,j=>by
  simp only [List.getElem?_cons_zero,Option.some.injEq] at h;subst h
  have a:=d x
  rw [List.set_cons_zero,List.flatMap_cons,List.flatMap_cons,← hp,Nat.zero_mul,Nat.zero_add,List.append_assoc,List.append_assoc]
  exact C7a _ _ _ _ opx
 | x::xs,k+1,v,b,us,f,h,hl,hp,j=>by
  simp only [List.getElem?_cons_succ] at h
  have e:=C1y d h hl hp j
  have a:=d x
  rw [List.set_cons_succ,List.flatMap_cons,List.flatMap_cons,List.append_assoc,List.append_assoc,← e]
  unfold A0q
  have g:(k+1) * sz+f=sz+(k * sz+f):=by rw [Nat.succ_mul];omega
  rw [g,List.take_append,List.drop_append,a,List.take_of_length_le opx,List.drop_eq_nil_of_le opx]
  rw [show sz+(k * sz+f) - sz=k * sz+f by omega,show sz+(k * sz+f)+us.length - sz=k * sz+f+us.length by omega]
  simp [List.append_assoc]
theorem B6w {o:Oper} {T m b off TT sz:Nat} {agg:Bool} {x y:Operand} {v:Value} {α:Type} {c:α→List Value} {xs:List α} {j us:List Value} {u u':α} (hT:Ty P T m agg) (g:∀ x,(c x).length=sz) (q:o.op=.store T x y) (r:ev E x=some (.pointer (some ⟨b,off,none⟩))) (z:ev E y=some v)
  (i:Nat) (w:L[i]?=some (bx b (xs.flatMap c++j) TT)) (l:v.cells=us.toArray) (t:us.length=m) (hb:us.all (·.oneCell')=true) (k f:Nat) (a:off=k * sz+f) (e:xs[k]?=some u) (p:A0q (c u) us f=c u') (d:Nat.ble (f+m) sz=true) :
  Tri P n X o E L Φ Unit (fun _=>undef) (fun _=>L.set i (bx b ((xs.set k u').flatMap c++j) TT)) (fun _=>Φ):=by
 have h:f+m≤sz:=Nat.le_of_ble_eq_true d
 refine F2 hT q r z i w l t hb (by rw [a];exact C1y g e opx p j) ?_
 have s:=(List.getElem?_eq_some_iff.1 e).1
 have h2:(k+1) * sz≤xs.length * sz:=Nat.mul_le_mul_right _ s
 rw [Nat.succ_mul] at h2
 refine Nat.ble_eq_true_of_le ?_
 rw [List.length_append,F5 g];omega
end
end Go.Fen
set_option linter.unusedVariables false
set_option linter.unusedSimpArgs false
namespace Go.Fen
open Go Go.RowKit
set_option linter.unusedSimpArgs false
set_option linter.unusedVariables false
section
variable {P:Program} {n:Nat} {X:Cx} {K:Act→World→Prop} {Q:Exit→Act→World→Prop} {E E':Env} {L L':Own} {Φ Φ':List Pers}
theorem mc (cs:List Own) (m:List Bool) (a:L=cs.flatten) (b:(D8q m cs).flatten=L'):L'.Sublist L:=by
 subst a b;exact C2k (C0g m cs)
theorem G9 (cs:List Own) (is:List Nat) (m:Nat) (c:cs.length=m) (h:is.Perm (List.range m)) (b:L=cs.flatten) (a:List Own) (f:is.map (cs.getD · [])=a) (d:a.flatten=L'):L.Perm L':=by
 subst c b f d
 have e:cs=(List.range cs.length).map (cs.getD · []):=by
  apply List.ext_getElem?
  intro i
  rw [List.getElem?_map]
  by_cases hi:i<cs.length
  ·rw [List.getElem?_range hi];simp [hi,List.getD]
  ·rw [List.getElem?_eq_none (Nat.le_of_not_lt hi),List.getElem?_eq_none (by simpa using Nat.le_of_not_lt hi)];rfl
 have:=((h.map (cs.getD · [])).symm).flatten
 rw [← e] at this
 exact this
end
def B5f (P:Program) (l:Nat) (v:Value) (L:Own) (Φ:List Pers) (post:Bool→Own→List Pers→Prop):Prop :=
 ∀ (w:World) (h:Hp),(∀ q ∈ Φ,q.p h)→h.sub w→A0u L h w →
  YieldAt Fence.wide 0 P l #[v] w fun e w'=>∃ b L' Φ',e=.returned (.bool b)∧post b L' Φ'∧StW (cx w h (L.map Prod.fst)) L' Φ' w'
def C8i (P:Program) (a:FuncId) (c:List Value) (Φ0:List Pers) {β:Type} (enc:β→Value) (xs:List β):Prop :=
 HasBody P a∧∀ (l:Nat) (w:World) (h:Hp) (I:List β→Own→List Pers→Prop) (Ix:Own→List Pers→Prop) (L:Own) (Φ:List Pers),I xs L Φ→(∀ q ∈ Φ0,q.p h)→(∀ q ∈ Φ,q.p h)→h.sub w→A0u L h w →
  (∀ x rest L Φ,I (x::rest) L Φ→B5f P l (enc x) L Φ fun b L' Φ'=>if b then I rest L' Φ' else Ix L' Φ') →
  Calls P a (#[.func (.yield l) #[] #[]]++c.toArray) w fun e w'=>(∃ v,e=.returned v)∧∃ L' Φ',(I [] L' Φ'∨Ix L' Φ')∧StW (cx w h (L.map Prod.fst)) L' Φ' w'
section
variable {P:Program} {n:Nat} {X:Cx} {K:Act→World→Prop} {Q:Exit→Act→World→Prop} {E E':Env} {L L':Own} {Φ Φ':List Pers}
def D1e (P:Program) (X:Cx) (a:Func) (R:Own→List Pers→Prop):Exit→Act→World→Prop :=
 bodyPostM (FW none) 0 P a fun e w'=>(∃ v,e=.returned v)∧∃ L' Φ',R L' Φ'∧StW X L' Φ' w'
theorem C7o {X':Cx} {a:Act} {w:World} {j:Func} {R:Own→List Pers→Prop} {v:Value} (hX:X'=X.wd X'.D) (g:X=X.wd []) (b:X.rho=none) (c:(X'.D.map Prod.fst).Nodup∧∀ d ∈ X'.D,d.2=.deferred (some [])) (hr:Res P n X j E L Φ v) (hR:R L' Φ') (k:L'.Sublist L) (hΦ:B0 Φ Φ')
  (i:St n X' E L Φ a w):LeavesInM (FW none) 0 P j a.tmps (fun e w'=>(∃ v,e=.returned v)∧∃ L' Φ',R L' Φ'∧StW X L' Φ' w') a.defers .returning w:=by
 have l:X'.marks=X'.D.map (B7g ·.1):=by rw [hX];unfold Cx.marks Cx.wd;simp only [b]
 rw [i.defers,l]
 refine A8r (X:=X) (L:=L) (Φ:=Φ) X'.D c.1 c.2 w (hX▸i.world) fun w' f=>⟨v,?_,⟨v,rfl⟩,L',Φ',hR,?_⟩
 ·rw [g] at hr
  exact hr {a with defers:=[]} w' ⟨i.size,by unfold Cx.marks Cx.wd;simp only [b];rfl,i.has,f⟩
 ·rw [g];exact (f.sub k).foll hΦ
theorem C0s {X':Cx} {f:Func} {R:Own→List Pers→Prop} {v:Value} (hX:X'=X.wd X'.D) (b:X.rho=none∧X.D=[]) (c:(X'.D.map Prod.fst).Nodup∧∀ d ∈ X'.D,d.2=.deferred (some [])) (hr:Res P n X f E L Φ v) (hR:R L' Φ') (i:L'.Sublist L) (hΦ:B0 Φ Φ') :
  JQ n X' (D1e P X f R .ret) E L Φ:=fun a w j=>C7o hX (by obtain ⟨l,k,M,r,D⟩:=X;obtain ⟨e,g⟩:=b;simp only at e g;subst e g;rfl) b.1 c hr hR i hΦ j
theorem Y0 {X':Cx} {f:Func} {R:Own→List Pers→Prop} {v:Value} (hX:X'=X.wd X'.D) (b:X.rho=none∧X.D=[]) (c:(X'.D.map Prod.fst).Nodup∧∀ d ∈ X'.D,d.2=.deferred (some [])) (hr:Res P n X f E L Φ v) (hR:R L' Φ') (i:L'.Sublist L) (hΦ:B0 Φ Φ') :
  JQ n X' (D1e P X f R .normal) E L Φ:=fun a w j=>C7o hX (by obtain ⟨l,k,M,r,D⟩:=X;obtain ⟨e,g⟩:=b;simp only at e g;subst e g;rfl) b.1 c hr hR i hΦ j
theorem B5y {args:List Value} {m:Nat} (b:Nat.ble args.length m=true) {E0:Env} (hE:S5 ((List.range args.length).zip args) E0):Has {tmps:=args.toArray++Array.replicate (m - args.toArray.size) undef,defers:=[]} E0:=by
 have f:args.length≤m:=Nat.le_of_ble_eq_true b
 have d:Has {tmps:=args.toArray++Array.replicate (m - args.toArray.size) undef,defers:=[]} ((List.range args.length).zip args):=by
  intro t v e
  have h:∀ (xs:List Value) (k:Nat),((List.range' k xs.length).zip xs).lookup t=some v→k≤t∧xs[t - k]?=some v:=by
   intro xs
   induction xs with
   | nil=>intro k a;simp at a
   | cons y ys ih =>
    intro k a
    rw [List.length_cons,List.range'_succ,List.zip_cons_cons] at a
    by_cases ht:t=k
    ·subst ht;simp [List.lookup] at a;simp [a]
    ·have:(t == k)=false:=by simpa using ht
     simp only [List.lookup,this] at a
     obtain ⟨d,c⟩:=ih (k+1) a
     refine ⟨by omega,?_⟩
     rw [show t - k=(t - (k+1))+1 by omega,List.getElem?_cons_succ]
     exact c
  rw [List.range_eq_range'] at e
  obtain ⟨_,c⟩:=h args 0 e
  have g:args[t]?=some v:=by simpa using c
  have:=(List.getElem?_eq_some_iff.1 g).1
  rw [Array.getElem?_append_left (by simpa using this)]
  simpa using g
 exact d.weaken (Q7 hE)
theorem D5y {s:FuncId} {i:Func} {c:Code} {a:List Value} {Φ0:List Pers} {β:Type} {enc:β→Value} {xs:List β}
  (o : P.funcs[s]? = some i) (k : i.body = some c) (m : (i.name == "runtime.NumGoroutine") = false) (r : i.ntmps = n) (j : Nat.ble (a.length + 1) n = true) (E0 : Nat → Env) (hE : ∀ l, S5 ((List.range (a.length + 1)).zip (.func (.yield l) #[] #[] :: a)) (E0 l))
  (h:∀ (X:Cx) (l:Nat) (I:List β→Own→List Pers→Prop) (Ix:Own→List Pers→Prop) (L:Own) (Φ:List Pers),X.M=L.map Prod.fst→X.rho=none→X.D=[]→I xs L Φ →
   (∀ x rest L Φ,I (x::rest) L Φ→B5f P l (enc x) L Φ fun b L' Φ'=>if b then I rest L' Φ' else Ix L' Φ')→J P n X c (D1e P X i fun L' Φ'=>I [] L' Φ'∨Ix L' Φ') (E0 l) (L++[]) (Φ0++Φ)):C8i P s a Φ0 enc xs:=by
 refine ⟨⟨by simp [o,k,m]⟩,fun l w p I Ix L Φ hI hΦ0 hΦ hs ho hy=>?_⟩
 have f:(#[.func (.yield l) #[] #[]]++a.toArray:Array Value)=(Value.func (.yield l) #[] #[]::a).toArray:=by simp
 rw [f]
 simp only [List.append_nil] at h
 refine (callsIn_wide (n:=0)).1 (callsIn_of_wp_marks (F:=Fence.wide) o k trivial (h (cx w p (L.map Prod.fst)) l I Ix L Φ rfl rfl rfl hI hy _ w ⟨?_,rfl,?_,p,⟨?_,hs,Hp.le_refl p,fun b k=>.inl k,ho,fun e u=>.inl (List.mem_map_of_mem u),KeptBut.refl _ w,fun d v=>(by cases v)⟩⟩))
 ·have t:a.length+1≤n:=Nat.le_of_ble_eq_true j
  simp [r];omega
 ·rw [r]
  exact B5y (args:=Value.func (.yield l) #[] #[]::a) j (hE l)
 ·intro q g
  rcases List.mem_append.1 g with g | g
  ·exact hΦ0 q g
  ·exact hΦ q g
theorem A4z {o:Oper} {c:Call} {y:Operand} {l:Nat} {v:Value} {L0 L2:Own} {Φ0:List Pers} {post:Bool→Own→List Pers→Prop} (hy:B5f P l v L0 Φ0 post)
  (x:o.op=.call c) (r:c.callee=.value y) (hf:ev E y=some (.func (.yield l) #[] #[])) (k:c.args.toList.mapM (ev E)=some [v]) (hΦ:B0 Φ Φ0) (t:L.Perm (L0++L2)) :
  Tri P n X o E L Φ {σ:Bool×Own×List Pers // post σ.1 σ.2.1 σ.2.2} (fun σ=>.bool σ.1.1) (fun σ=>σ.1.2.1++L2) (fun σ=>σ.1.2.2++Φ):=by
 intro a w K Q u hk
 obtain ⟨p,m⟩:=u.world
 have q:A0u (L0++L2) p w:=⟨fun e he=>m.own.1 e (t.symm.subset he),(t.map Prod.fst).nodup_iff.1 m.own.2⟩
 obtain ⟨z,g,d,i,s,f⟩:=hy w p (hΦ p m.facts) m.sub (q.sub (List.sublist_append_left _ _))
 have hr:(execOp a.eval o).run P w=.ok (.round l z g d i) w:=by
  simp [execOp,x,resolve,r,C4 u.has hf,Deferred.ofValue,A7b u.has k,invoke,s]
 refine ⟨fun _ _=>trivial,?_⟩
 rw [Oper.semAt_eq _ _ _ (fun c r=>by rw [x] at r;cases r),hr]
 refine ⟨A5p,?_⟩
 have hR:RoundIn (FW X.rho) 0 P l z g d i w _:=f
 refine hR.mono fun e w' hx=>?_
 obtain ⟨b,L',Φ',rfl,j,hw⟩:=hx
 exact hk ⟨(b,L',Φ'),j⟩ w' (StW.call m t hw)
end
end Go.Fen
set_option linter.unusedVariables false
set_option linter.unusedSimpArgs false
namespace Go.Fen
open Go Go.RowKit
set_option linter.unusedSimpArgs false
set_option linter.unusedVariables false
section
variable {P:Program} {n:Nat} {X:Cx} {K:Act→World→Prop} {Q:Exit→Act→World→Prop} {E E':Env} {L L':Own} {Φ Φ':List Pers}
theorem StW.reput {w:World} {d:Nat} {o o':Obj} {ds:List (Nat×Obj)} (l:d ∉ ds.map Prod.fst) (h:StW (X.wd ((d,o)::ds)) L Φ w):StW (X.wd ((d,o')::ds)) L Φ (w.putObj d o'):=by
 have x:=StW.take l o' h
 obtain ⟨s,a⟩:=h
 obtain ⟨t,q,p,c⟩:=a.res (d,o) (List.mem_cons_self ..)
 have i:=(Array.getElem?_eq_some_iff.1 t).1
 refine ⟨s,⟨a.facts,fun k u e=>?_,a.le,a.dom,⟨fun e g=>⟨?_,(a.own.1 e g).2⟩,a.own.2⟩,a.may,⟨a.kept.os,a.kept.tape,a.kept.output,?_,fun k j n=>?_⟩,fun m b=>?_⟩⟩
 ·have:k≠d:=fun f=>by subst f;rw [q] at e;cases e
  rw [World.putObj_heap_other this];exact a.sub k u e
 ·rw [World.putObj_heap_other (p e g)];exact (a.own.1 e g).1
 ·rw [World.putObj_size];exact a.kept.size
 ·have:k≠d:=fun f=>by
   subst f
   rcases c with c | c
   ·have:X.w0.heap.size≤k:=c
    have:k<X.w0.heap.size:=j
    omega
   ·exact n c
  rw [World.putObj_heap_other this];exact a.kept.block k j n
 ·rcases List.mem_cons.1 b with rfl | b
  ·exact ⟨World.putObj_heap_same i,q,p,c⟩
  ·have:m.1≠d:=fun f=>l (f▸List.mem_map_of_mem b)
   obtain ⟨v,r⟩:=a.res m (List.mem_cons_of_mem _ b)
   exact ⟨by rw [World.putObj_heap_other this];exact v,r⟩
theorem StW.unres {w:World} {j:World} {i:Hp} {M:List Nat} {r:Option Nat} {ds:List (Nat×Obj)} (l:(ds.map Prod.fst).Nodup) (h:StW ⟨j,i,M,r,ds⟩ L Φ w):StW (cx j i M) (ds++L) Φ w:=by
 obtain ⟨p,a⟩:=h
 refine ⟨p,⟨a.facts,a.sub,a.le,a.dom,⟨fun e f=>?_,?_⟩,fun e f=>?_,⟨a.kept.os,a.kept.tape,a.kept.output,a.kept.size,a.kept.block⟩,fun d g=>by cases g⟩⟩
 ·rcases List.mem_append.1 f with f | f
  ·exact ⟨(a.res e f).1,(a.res e f).2.1⟩
  ·exact a.own.1 e f
 ·rw [List.map_append,List.nodup_append]
  refine ⟨l,a.own.2,fun b m c k=>?_⟩
  obtain ⟨d,g,rfl⟩:=List.mem_map.1 m
  obtain ⟨e,f,rfl⟩:=List.mem_map.1 k
  exact fun h=>(a.res d g).2.2.1 e f h.symm
 ·rcases List.mem_append.1 f with f | f
  ·exact (a.res e f).2.2.2.symm
  ·exact a.may e f
theorem StW.reserve {w:World} {d:Nat} {o:Obj} (h:StW X ((d,o)::L) Φ w):StW (X.wd ((d,o)::X.D)) L Φ w:=by
 obtain ⟨p,a⟩:=h
 refine ⟨p,⟨a.facts,a.sub,a.le,a.dom,a.own.sub (List.sublist_cons_self _ _),fun e c=>a.may e (List.mem_cons_of_mem _ c),⟨a.kept.os,a.kept.tape,a.kept.output,a.kept.size,a.kept.block⟩,fun e c=>?_⟩⟩
 rcases List.mem_cons.1 c with rfl | c
 ·have f:=a.own.1 (d,o) (List.mem_cons_self ..)
  refine ⟨f.1,f.2,fun g b hE=>?_,(a.may (d,o) (List.mem_cons_self ..)).symm⟩
  have:=a.own.2
  rw [List.map_cons,List.nodup_cons] at this
  exact this.1 (hE▸List.mem_map_of_mem b)
 ·obtain ⟨l,i,k,j⟩:=a.res e c
  exact ⟨l,i,fun g b=>k g (List.mem_cons_of_mem _ b),j⟩
def RP (Y:Cx) {β σ:Type} (I:List β→σ→Prop) (Jx:Code→σ→Prop) (Lk:σ→Own) (Φk:σ→List Pers) (rest:List β):Exit→Act→World→Prop
 | .normal,_,w=>∃ s,I rest s∧StW Y (Lk s) (Φk s) w
 | .ret,_,w=>∃ s,Jx .ret s∧StW Y (Lk s) (Φk s) w
 | .exit id,_,w=>∃ s,Jx (.exit id) s∧StW Y (Lk s) (Φk s) w
 | _,_,_=>False
theorem D9l {g:Operand} {p:Nat} {ps:Array Tmp} {assign body:Code} {gf:FuncId} {lb:List Value} {Φ0:List Pers} {β:Type} {enc:β→Value} {xs:List β}
  (ae:X.rho=none) (hg:ev E g=some (.func (.func gf) #[] lb.toArray)) (ao:C8i P gf lb Φ0 enc xs) (hΦ0:B0 Φ Φ0) (b2:ps=#[p]) (b0:X1 n (some p)=true)
  {σ:Type} (I:List β→σ→Prop) (Jx:Code→σ→Prop) (Lk:σ→Own) (Φk:σ→List Pers) (s0:σ) (h0:I xs s0) (hL:(Lk s0).Sublist L) (hΦ:B0 Φ (Φk s0))
  (a5:∀ x rest s,I (x::rest) s→∀ (Y Y':Cx) (K:Act→World→Prop),Y.rho.isSome=true →
   (∀ E L Φ,J P n Y' body (RP Y' I Jx Lk Φk rest) E L Φ→JQ n Y K E L Φ)→J P n Y assign (Exit.then K (fun _ _ _=>False)) (Env.put E (some p) (enc x)) (Lk s) (Φk s))
  (a6:∀ d s,d ∉ X.D.map Prod.fst→I [] s→JQ n (X.wd ((d,.deferred (some []))::X.D)) (Q .normal) E (Lk s) (Φk s))
  (ak:∀ d c s,d ∉ X.D.map Prod.fst→Jx c s→J P n (X.wd ((d,.deferred (some []))::X.D)) c Q E (Lk s) (Φk s)):J P n X (.rangeFunc g ps assign body) Q E L Φ:=by
 intro a w z
 subst b2
 rw [ae]
 refine wpIn_rangeFunc ?_
 intro fn _
 obtain ⟨f,hrec⟩:∃ f:LoopState→Option Code→Loop,f=fun st u=>{state:=st,pending:=u,fn,tmps:=a.tmps,params:=#[p],assign,body,defers:=w.heap.size}:=⟨_,rfl⟩
 have he:=run_enterLoop_outer (P:=P) (w:=w) fn a.tmps #[p] assign body
 rw [show ({state:=.ready,pending:=none,fn:=fn,tmps:=a.tmps,params:=#[p],assign:=assign,body:=body,defers:=w.heap.size}:Loop)=f .ready none by rw [hrec]] at he
 obtain ⟨w1,hw1⟩:∃ w1,(w.alloc (.deferred (some []))).alloc (.loop (f .ready none))=w1:=⟨_,rfl⟩
 rw [hw1] at he
 refine ⟨w.heap.size+1,[B7g w.heap.size],w1,{target:=.fn (.func gf) lb.toArray,args:=#[.func (.yield (w.heap.size+1)) #[] #[]]},w1,gf,
  #[.func (.yield (w.heap.size+1)) #[] #[]]++lb.toArray,w1,he,?_,fun _ _=>trivial,?_,A5p,?_⟩
 ·simp only [resolve,C4 z.has hg]
  simp [go_sem]
 ·simp [invoke,A0p ao.1]
 ·-- the caller's state,the two blocks laid
  have aj:StW X ((w.heap.size+1,.loop (f .ready none))::(w.heap.size,.deferred (some []))::Lk s0) Φ w1:=by
   have h1:=(z.world.sub hL).alloc (.deferred (some []))
   have h2:=h1.alloc (.loop (f .ready none))
   rw [World.size_alloc,hw1] at h2
   exact h2
  have an:w.heap.size ∉ X.D.map Prod.fst:=fun hm=>by
   obtain ⟨e,af,hE⟩:=List.mem_map.1 hm
   obtain ⟨q,hq⟩:=z.world
   have:=(Array.getElem?_eq_some_iff.1 (hq.res e af).1).1
   omega
  obtain ⟨q,hq⟩:=aj
  have bi:w.heap.size+1<w1.heap.size:=(Array.getElem?_eq_some_iff.1 (hq.own.1 _ (List.mem_cons_self ..)).1).1
  let It:List β→Own→List Pers→Prop:=fun rem L Φ=>∃ s,I rem s∧L=(w.heap.size+1,.loop (f .ready none))::(w.heap.size,.deferred (some []))::Lk s∧Φ=Φk s
  let Itx:Own→List Pers→Prop:=fun L Φ=>∃ c s,Jx c s∧L=(w.heap.size+1,.loop (f .done (some c)))::(w.heap.size,.deferred (some []))::Lk s∧Φ=Φk s
  have ah:=ao.2 (w.heap.size+1) w1 q It Itx _ (Φk s0) ⟨s0,h0,rfl,rfl⟩ (hΦ0 q hq.facts) (hΦ q hq.facts) hq.sub hq.own ?_
  ·refine B1s (ah.mono fun e w' hx=>?_)
   obtain ⟨⟨v,rfl⟩,L',Φ',hI,b5⟩:=hx
   have aq:=StW.call (L0:=(w.heap.size+1,.loop (f .ready none))::(w.heap.size,.deferred (some []))::Lk s0) (L2:=[]) hq oom b5
   rw [List.append_nil] at aq
   have r:∀ (st:LoopState) (u:Option Code) (s:σ),st≠.busy→L'=(w.heap.size+1,.loop (f st u))::(w.heap.size,.deferred (some []))::Lk s→Φ'=Φk s →
     (Instr.endLoop (w.heap.size+1)).run P w'=.ok u (w'.putObj (w.heap.size+1) (.loop {f st u with state:=.exhausted})) ∧
     St n (X.wd ((w.heap.size,.deferred (some []))::X.D)) E (Lk s) (Φk s) {a with defers:=[B7g w.heap.size]++a.defers} (w'.putObj (w.heap.size+1) (.loop {f st u with state:=.exhausted})):=fun st u s aj l hΦ'=>by
    subst l hΦ'
    obtain ⟨q2,ad⟩:=aq
    have hl:=(ad.own.1 _ (List.mem_cons_self ..)).1
    simp only at hl
    have i:=run_endLoop (P:=P) hl (by rw [hrec];exact aj)
    rw [hrec] at i ⊢
    refine ⟨i,⟨z.size,?_,z.has,?_⟩⟩
    ·show [B7g w.heap.size]++a.defers=_
     rw [z.defers]
     unfold Cx.marks Cx.wd
     simp only [ae];rfl
    ·have y:StW X ((w.heap.size,.deferred (some []))::Lk s) (Φk s++Φ) (w'.putObj (w.heap.size+1) (.loop {f st u with state:=.exhausted})):=by
      have h4:=StW.reserve (X:=X) ⟨q2,ad⟩
      have a9:=ad.own.2
      have h5:=StW.take (X:=X) (d:=(w.heap.size+1,.loop (f st u))) (ds:=X.D) ?_ (.loop {f st u with state:=.exhausted}) h4
      ·exact h5
      ·intro hm
       obtain ⟨e,af,hE⟩:=List.mem_map.1 hm
       obtain ⟨q3,a4⟩:=z.world
       have:=(Array.getElem?_eq_some_iff.1 (a4.res e af).1).1
       simp only at hE;omega
     rw [hrec] at y
     exact y.reserve.foll fun p hp q hq=>hp q (List.mem_append_left _ hq)
   rcases hI with ⟨s,hI,l,hΦ'⟩ | ⟨c,s,hI,l,hΦ'⟩
   ·obtain ⟨i,ai⟩:=r .ready none s oom l hΦ'
    exact ⟨none,_,i,a6 _ s an hI _ _ ai⟩
   ·obtain ⟨i,ai⟩:=r .done (some c) s oom l hΦ'
    have h6:=ak _ c s an hI _ _ ai
    have:(X.wd ((w.heap.size,.deferred (some []))::X.D)).rho=none:=ae
    rw [this] at h6
    exact ⟨some c,_,i,h6⟩
  ·-- one round
   rintro x rest L0 Φ0 ⟨s,hIs,rfl,rfl⟩ wr hr hfr hsr hor
   have hl:=(hor.1 _ (List.mem_cons_self ..)).1
   simp only at hl
   have hy:=run_yield (P:=P) (args:=#[enc x]) hl (by rw [hrec];rfl)
   rw [hrec] at hy
   refine ⟨_,_,assign,body,hy,roundIn_of_wpIn trivial ?_⟩
   have b4:w.heap.size+1≠w.heap.size:=by omega
   let M0:List Nat:=(w.heap.size+1)::w.heap.size::(Lk s).map Prod.fst
   let Y:Cx:=⟨wr,hr,M0,some (w.heap.size+1),[(w.heap.size+1,.loop (f .ready none)),(w.heap.size,.deferred (some []))]⟩
   let Y':Cx:=⟨wr,hr,M0,some (w.heap.size+1),[(w.heap.size+1,.loop {f .ready none with state:=.busy}),(w.heap.size,.deferred (some []))]⟩
   have hb:=a5 x rest s hIs Y Y' (fun a₁ w₁=>∃ w₂,(Instr.beginRound (w.heap.size+1)).run P w₁=.ok () w₂∧body.wpIn (Fence.wide.inRound (w.heap.size+1)) 0 P
    (roundPost P (w.heap.size+1) fun e w'=>∃ b L' Φ',e=.returned (.bool b)∧(if b then It rest L' Φ' else Itx L' Φ')∧StW (cx wr hr M0) L' Φ' w') a₁ w₂) rfl ?_
   ·refine hb _ wr ⟨?_,rfl,?_,hr,⟨hfr,hsr,Hp.le_refl hr,fun b hb=>.inl hb,hor.sub ((List.sublist_cons_self _ _).trans (List.sublist_cons_self _ _)),fun e he=>.inl ?_,KeptBut.refl _ _,fun d hd=>?_⟩⟩
    ·have:a.tmps.size=n:=z.size
     simp [this]
    ·have:=z.has.put (d:=p) (by rw [z.size];simpa [X1,Nat.blt_eq] using b0) (enc x)
     exact fun t v e=>by simpa [Act.put] using this t v e
    ·exact List.mem_cons_of_mem _ (List.mem_cons_of_mem _ (List.mem_map_of_mem he))
    ·have a9:=hor.2
     simp only [List.map_cons,List.nodup_cons,List.mem_cons,not_or] at a9
     simp only [Y,List.mem_cons,List.not_mem_nil,or_false] at hd
     rcases hd with rfl | rfl
     ·exact ⟨hl,(hor.1 _ (List.mem_cons_self ..)).2,fun e he hE=>a9.1.2 (by simp only at hE;rw [← hE];exact List.mem_map_of_mem he),.inr (by simp [Y,M0])⟩
     ·have h1:=hor.1 _ (List.mem_cons_of_mem _ (List.mem_cons_self ..))
      exact ⟨h1.1,h1.2,fun e he hE=>a9.2.1 (by simp only at hE;rw [← hE];exact List.mem_map_of_mem he),.inr (by simp [Y,M0])⟩
   ·-- the record turns to busy;the body;the record turns back
    intro E1 L1 Φ1 hJ a1 w2 hs1
    obtain ⟨q1,b3⟩:=hs1.world
    have ap:=(b3.res (w.heap.size+1,.loop (f .ready none)) (by simp [Y])).1
    simp only at ap
    refine ⟨_,run_beginRound ap (by rw [hrec]),?_⟩
    have au:StW Y' L1 Φ1 (w2.putObj (w.heap.size+1) (.loop {f .ready none with state:=.busy})):=by
     have:=StW.reput (X:=Y) (d:=w.heap.size+1) (o:=.loop (f .ready none)) (o':=.loop {f .ready none with state:=.busy}) (ds:=[(w.heap.size,.deferred (some []))]) oom hs1.world
     exact this
    have ab:=hJ a1 _ ⟨hs1.size,hs1.defers,hs1.has,au⟩
    refine Code.wpIn_mono (fun e a2 w3 hp=>?_) ab
    have al:∀ (j:Option Code) (k:σ),StW Y' (Lk k) (Φk k) w3 →
      (Instr.endRound (w.heap.size+1) j).run P w3=.ok (.bool j.isNone) (w3.putObj (w.heap.size+1) (.loop (f (if j.isNone then .ready else .done) j))) ∧
      StW (cx wr hr M0) ((w.heap.size+1,.loop (f (if j.isNone then .ready else .done) j))::(w.heap.size,.deferred (some []))::Lk k) (Φk k) (w3.putObj (w.heap.size+1) (.loop (f (if j.isNone then .ready else .done) j))):=fun j k y=>by
     obtain ⟨q3,a4⟩:=y
     have ar:=(a4.res (w.heap.size+1,.loop {f .ready none with state:=.busy}) (by simp [Y'])).1
     simp only at ar
     have i:=run_endRound (P:=P) j ar
     refine ⟨by rw [hrec] at i ⊢;exact i,?_⟩
     have h4:=StW.reput (X:=Y') (d:=w.heap.size+1) (o:=.loop {f .ready none with state:=.busy}) (o':=.loop (f (if j.isNone then .ready else .done) j)) (ds:=[(w.heap.size,.deferred (some []))]) oom ⟨q3,a4⟩
     exact StW.unres oom h4
    cases e with
    | normal =>
     obtain ⟨k,m,y⟩:=hp
     obtain ⟨i,h4⟩:=al none k y
     exact ⟨_,_,i,true,_,_,rfl,⟨k,m,rfl,rfl⟩,h4⟩
    | ret =>
     obtain ⟨k,m,y⟩:=hp
     obtain ⟨i,h4⟩:=al (some .ret) k y
     exact ⟨_,_,i,false,_,_,rfl,⟨.ret,k,m,rfl,rfl⟩,h4⟩
    | exit id =>
     obtain ⟨k,m,y⟩:=hp
     obtain ⟨i,h4⟩:=al (some (.exit id)) k y
     exact ⟨_,_,i,false,_,_,rfl,⟨.exit id,k,m,rfl,rfl⟩,h4⟩
    | goto t=>exact hp.elim
    | panic c=>exact hp.elim
    | outgrown=>exact hp.elim
end
end Go.Fen
