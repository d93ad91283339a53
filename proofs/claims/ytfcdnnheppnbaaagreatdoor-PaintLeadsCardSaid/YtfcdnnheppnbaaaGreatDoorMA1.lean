import Derived.WalkKit
import Derived.BigQuiet
import Derived.Deep.QuietTactic
import Derived.Sort.QuietThIn
import Derived.Sort.LoopGhostIn
import Derived.LoopNIn
import Derived.RangeFuncNested
import Derived.Deep.LoopGhost
import Derived.ChangeKeysEq
import Derived.OrdersHeld
import Derived.Maps.AppendAt
set_option linter.unusedVariables false
set_option linter.unusedSimpArgs false
set_option linter.unnecessarySimpa false
set_option maxRecDepth 100000
namespace Go.Fen
open Go Go.RowKit
abbrev Hp:=Nat→Option Obj
def Hp.le (h a:Hp):Prop:=∀ b o,h b=some o→a b=some o
def Hp.sub (h:Hp) (w:World):Prop:=∀ b o,h b=some o→w.heap[b]?=some o
theorem Hp.le_refl (h:Hp):h.le h:=fun _ _ e=>e
theorem Hp.le_trans {a b c:Hp} (h:a.le b) (k:b.le c):a.le c:=fun i o e=>k i o (h i o e)
structure Pers where
 p:Hp→Prop
 mono:∀ {h h':Hp},h.le h'→p h→p h'
abbrev Own:=List (Nat×Obj)
abbrev bX:=List (Nat×Value)
structure Cx where
 w0:World
 h0:Hp
 M:List Nat
 rho:Option Nat
 D:List (Nat×Obj)
def FW (ρ:Option Nat):Fence:={fn:=fun _=>True,depth:=none,alive:=false,round:=ρ}
theorem B5v {ρ:Option Nat} {k:Nat} {P:Program} {f:FuncId} {args:Array Value} {w:World} {R:Ending→World→Prop} (h:Calls P f args w R):CallsIn (FW ρ) k P f args w R :=
 (callsIn_wide (n:=k)).2 h
theorem E8r {ρ:Option Nat} {k:Nat} {P:Program} {row:String} {args:Array Value} {w:World} {R:Value→World→Prop} (h:Rows P row args w R):RowsIn (FW ρ) k P row args w R :=
 fun c cs _=>let ⟨v,w',hR,hs⟩:=h c cs;⟨v,w',hR,stepsIn_wide.2 hs⟩
theorem A8f {ρ:Option Nat} {k:Nat}:(FW ρ).depth.isSome=true→1≤k:=fun h=>by simp [FW] at h
def C4a:Op→Bool
 | .defer _=>true
 | _=>false
theorem A8j {ρ:Option Nat} {P:Program} {o:Oper} {a:Act} {w:World} {K:Act→World→Prop} {Q:Exit→Act→World→Prop} (b:C4a o.op=false) (h:o.wp P a w K Q):o.wpIn (FW ρ) 0 P a w K Q:=by
 refine ⟨fun _ _=>trivial,?_⟩
 rw [Oper.semAt_eq _ _ _ (fun c e=>by rw [e] at b;cases b)]
 unfold Oper.wp at h
 revert h
 generalize (execOp a.eval o).run P w=r
 intro h
 cases r with
 | ok x w' =>
  cases x with
  | value v=>exact h
  | skip=>exact h
  | defer d=>exact h
  | enter f args=>exact ⟨A8f,B5v h⟩
  | row row args=>exact ⟨A8f,E8r h⟩
  | _=>exact h.elim
 | halt x w'=>cases x<;>first | exact h | exact h.elim
def C1t (d:Nat):Deferred:={target:=.collected d,args:=#[]}
def Cx.marks (X:Cx):List Deferred:=match X.rho with | none=>X.D.map (C1t ·.1) | some _=>[]
structure KeptBut (M:List Nat) (w w':World):Prop where
 os:w'.os=w.os
 tape:w'.tape=w.tape
 output:w'.output=w.output
 size:w.heap.size≤w'.heap.size
 block:∀ k,k<w.heap.size→k ∉ M→w'.heap[k]?=w.heap[k]?
theorem KeptBut.refl (M:List Nat) (w:World):KeptBut M w w:=⟨rfl,rfl,rfl,Nat.le_refl _,fun _ _ _=>rfl⟩
theorem oom {p:Prop} (h:p:=by simp):p:=h
theorem KeptBut.below {w w':World} (h:KeptBut [] w w'):Below w.heap.size w w':=⟨h.os,h.tape,h.output,h.size,fun k a=>h.block k a oom⟩
theorem KeptBut.of_below {w w':World} (h:Below w.heap.size w w'):KeptBut [] w w':=⟨h.os,h.tape,h.output,h.size,fun k a _=>h.block k a⟩
theorem KeptBut.trans {M:List Nat} {a b c:World} (h:KeptBut M a b) (k:KeptBut M b c):KeptBut M a c :=
 ⟨k.os.trans h.os,k.tape.trans h.tape,k.output.trans h.output,Nat.le_trans h.size k.size,fun i e d=>(k.block i (Nat.lt_of_lt_of_le e h.size) d).trans (h.block i e d)⟩
def A2i (L:Own) (h:Hp) (w:World):Prop:=(∀ e ∈ L,w.heap[e.1]?=some e.2∧h e.1=none)∧(L.map Prod.fst).Nodup
structure StH (X:Cx) (L:Own) (Φ:List Pers) (h:Hp) (w:World):Prop where
 facts:∀ q ∈ Φ,q.p h
 sub:h.sub w
 le:X.h0.le h
 dom:∀ b,h b≠none→X.h0 b≠none∨(b ∈ X.M∨X.w0.heap.size≤b)
 own:A2i L h w
 may:∀ e ∈ L,e.1 ∈ X.M∨X.w0.heap.size≤e.1
 kept:KeptBut X.M X.w0 w
 res:∀ d ∈ X.D,w.heap[d.1]?=some d.2∧h d.1=none∧(∀ e ∈ L,e.1≠d.1)∧(X.w0.heap.size≤d.1∨d.1 ∈ X.M)
def cC (X:Cx) (L:Own) (Φ:List Pers) (w:World):Prop:=∃ h,StH X L Φ h w
def Has (a:Act) (E:bX):Prop:=∀ t v,E.lookup t=some v→a.tmps[t]?=some v
structure St (n:Nat) (X:Cx) (E:bX) (L:Own) (Φ:List Pers) (a:Act) (w:World):Prop where
 size:a.tmps.size=n
 defers:a.defers=X.marks
 has:Has a E
 world:cC X L Φ w
def ev (E:bX):Operand→Option Value
 | .tmp t=>E.lookup t
 | .const v=>some v
 | .global g=>some (.pointer (some ⟨g,0,none⟩))
 | .func f=>some (.func (.func f) #[] #[])
theorem C3 {a:Act} {E:bX} (h:Has a E) {x:Operand} {v:Value} (e:ev E x=some v):a.eval x=v:=by
 cases x with
 | tmp t=>have:=h t v e;simp [Act.eval,this]
 | const u=>simp [ev] at e;simp [Act.eval,e]
 | global g=>simp [ev] at e;simp [Act.eval,e]
 | func f=>simp [ev] at e;simp [Act.eval,e]
theorem Has.put {a:Act} {E:bX} (h:Has a E) {d:Nat} (b:d<a.tmps.size) (v:Value):Has (a.put (some d) v) ((d,v)::E):=by
 intro t u e
 simp only [Act.put]
 by_cases ht:t=d
 ·subst ht
  simp [List.lookup] at e
  simp [b,e]
 ·have:(t == d)=false:=by simpa using ht
  simp only [List.lookup,this] at e
  rw [Array.getElem?_setIfInBounds,if_neg (fun e=>ht e.symm)]
  exact h t u e
theorem Act.put_size (a:Act) (d:Option Nat) (v:Value):(a.put d v).tmps.size=a.tmps.size:=by cases d<;>simp [Act.put]
theorem Act.put_defers' (a:Act) (d:Option Nat) (v:Value):(a.put d v).defers=a.defers:=by cases d<;>rfl
def bX.put (E:bX) (d:Option Nat) (v:Value):bX:=match d with | some d=>(d,v)::E | none=>E
def X6 (n:Nat):Option Nat→Bool | some d=>Nat.blt d n | none=>true
theorem St.put {n:Nat} {X:Cx} {E:bX} {L L':Own} {Φ Φ':List Pers} {a:Act} {w w':World} (h:St n X E L Φ a w) {d:Option Nat} (b:X6 n d=true) (v:Value) (c:cC X L' Φ' w'):St n X (bX.put E d v) L' Φ' (a.put d v) w':=by
 refine ⟨by rw [Act.put_size,h.size],by rw [Act.put_defers',h.defers],?_,c⟩
 cases d with
 | none=>exact h.has
 | some d=>exact h.has.put (by rw [h.size];simpa [X6,Nat.blt_eq] using b) v
section
variable (P:Program) (n:Nat) (X:Cx)
def J (c:Code) (Q:Exit→Act→World→Prop) (E:bX) (L:Own) (Φ:List Pers):Prop:=∀ a w,St n X E L Φ a w→c.wpIn (FW X.rho) 0 P Q a w
def JQ (K:Act→World→Prop) (E:bX) (L:Own) (Φ:List Pers):Prop:=∀ a w,St n X E L Φ a w→K a w
def JI (b:Array Oper) (i m:Nat) (K:Act→World→Prop) (Q:Exit→Act→World→Prop) (E:bX) (L:Own) (Φ:List Pers):Prop :=
 ∀ a w,St n X E L Φ a w→wpListIn (FW X.rho) 0 P b (Exit.then K Q) ((b.toList.drop i).take m) a w
end
section
variable {P:Program} {n:Nat} {X:Cx} {K:Act→World→Prop} {Q:Exit→Act→World→Prop} {E E':bX} {L L':Own} {Φ Φ':List Pers}
theorem A5 {x y:Code} (h:J P n X x (Exit.then (fun a w=>y.wpIn (FW X.rho) 0 P Q a w) Q) E L Φ):J P n X (.seq x y) Q E L Φ:=fun a w b=>wpIn_seq (h a w b)
theorem D7e (Q:Exit→Act→World→Prop):Exit.then (Q .normal) Q=Q:=by funext e a w;cases e<;>rfl
theorem A0 {id:Nat} {b:Array Oper} (m:Nat) (d:b.size=m) (h:JI P n X b 0 m (Q .normal) Q E L Φ):J P n X (.region id b false) Q E L Φ:=fun a w c=>wpIn_region_list (by
 have:=h a w c
 rw [D7e,List.drop_zero,List.take_of_length_le (by simp [← d])] at this
 exact this)
theorem A4 (h:JQ n X (Q .normal) E L Φ):J P n X .skip Q E L Φ:=fun a w b=>wpIn_skip (h a w b)
theorem B2 {id:Nat} {c:Code} (h:J P n X c (Exit.inBlock id Q) E L Φ):J P n X (.block id c) Q E L Φ:=fun a w b=>wpIn_block (h a w b)
theorem G6 {id:Nat} (h:JQ n X (Q (.exit id)) E L Φ):J P n X (.exit id) Q E L Φ:=fun a w b=>wpIn_exit (h a w b)
theorem A8 (h:JQ n X (Q .ret) E L Φ):J P n X .ret Q E L Φ:=fun a w b=>wpIn_ret (h a w b)
theorem X7 {c:Operand} {x y:Code} {g:Bool} (f:ev E c=some (.bool g)) (d:g=true→J P n X x Q E L Φ) (h:g=false→J P n X y Q E L Φ):J P n X (.cond c x y) Q E L Φ :=
 fun a w b=>wpIn_cond_split (C3 b.has f) (fun e=>d e a w b) (fun e=>h e a w b)
theorem J9 {c:Operand} {x y:Code} (a:ev E c=some (.bool true)) (b:J P n X x Q E L Φ):J P n X (.cond c x y) Q E L Φ:=X7 a (fun _=>b) (fun e=>by cases e)
theorem Z1 {c:Operand} {x y:Code} (a:ev E c=some (.bool false)) (b:J P n X y Q E L Φ):J P n X (.cond c x y) Q E L Φ:=X7 a (fun e=>by cases e) (fun _=>b)
theorem A3 {b:Array Oper} {i:Nat} (h:JQ n X K E L Φ):JI P n X b i 0 K Q E L Φ:=fun a w c=>by
 rw [List.take_zero];exact wpListIn_nil (h a w c)
def Tri (P:Program) (n:Nat) (X:Cx) (o:Oper) (E:bX) (L:Own) (Φ:List Pers) (α:Type) (val:α→Value) (L':α→Own) (Φ':α→List Pers):Prop :=
 ∀ a w (K:Act→World→Prop) (Q:Exit→Act→World→Prop),St n X E L Φ a w→(∀ x w',cC X (L' x) (Φ' x) w'→K (a.put o.dst (val x)) w')→o.wpIn (FW X.rho) 0 P a w K Q
def A6r (a:Array Oper) (o:Oper) (E:bX):Option Bool :=
 match o.guard with
 | none=>some true
 | some (j,want)=>match ((a[j]?).bind (·.dst)).bind (E.lookup ·) with
  | some (.bool b)=>some (b == want)
  | some (.tuple _)=>some false
  | _=>none
theorem A0o {g:Array Oper} {o:Oper} {a:Act} {b:Bool} (l:Has a E) (h:A6r g o E=some b):Region.wanted o (yielded g a.tmps)=b:=by
 unfold A6r at h
 unfold Region.wanted
 split at h
 ·simp_all
 ·rename_i j f m
  simp only [m]
  split at h
  ·rename_i c k
   obtain ⟨d,i,e⟩:=Option.bind_eq_some_iff.1 k
   have:=l d _ e
   simp only [Option.some.injEq] at h
   simp only [yielded,i,Option.bind_some,this]
   rw [← h]
   cases c<;>cases f<;>rfl
  ·rename_i n k
   obtain ⟨d,i,e⟩:=Option.bind_eq_some_iff.1 k
   have:=l d _ e
   simp only [Option.some.injEq] at h
   simp only [yielded,i,Option.bind_some,this]
   rw [← h]
   rfl
  ·cases h
theorem B2k {a:Array Oper} {i:Nat} {o:Oper} (h:a[i]?=some o):a.toList.drop i=o::a.toList.drop (i+1):=by
 have b:i<a.toList.length:=by
  rcases Nat.lt_or_ge i a.size with h' | h'
  ·simpa using h'
  ·rw [Array.getElem?_eq_none h'] at h;cases h
 rw [List.drop_eq_getElem_cons b]
 congr 1
 have:a[i]?=some (a.toList[i]):=by rw [Array.getElem?_eq_getElem (by simpa using b)];rfl
 rw [this] at h;exact Option.some.inj h
theorem C9a {b:Array Oper} {i m:Nat} {o:Oper} {α:Type} {val:α→Value} {L':α→Own} {Φ':α→List Pers} (f:b[i]?=some o) (k:A6r b o E=some true) (e:X6 n o.dst=true)
  (j:Tri P n X o E L Φ α val L' Φ') (h:∀ x,JI P n X b (i+1) m K Q (bX.put E o.dst (val x)) (L' x) (Φ' x)):JI P n X b i (m+1) K Q E L Φ:=by
 intro a w c
 rw [B2k f,List.take_succ_cons]
 refine wpListIn_step fun K g=>?_
 rw [if_pos (A0o c.has k)]
 exact j a w K _ c fun x w' d=>g _ _ (h x _ _ (c.put e _ d))
theorem E1e {b:Array Oper} {i m:Nat} {o:Oper} (g:b[i]?=some o) (f:A6r b o E=some false) (d:X6 n o.dst=true)
  (h:JI P n X b (i+1) m K Q (bX.put E o.dst undef) L Φ):JI P n X b i (m+1) K Q E L Φ:=by
 intro a w c
 rw [B2k g,List.take_succ_cons]
 refine wpListIn_step fun K e=>?_
 rw [if_neg (by rw [A0o c.has f];simp)]
 exact ⟨fun _ _=>trivial,e _ _ (h _ _ (c.put d _ c.world))⟩
def Det (P:Program) (X:Cx) (o:Oper) (E:bX) (L:Own) (Φ:List Pers) (v:Value):Prop:=∀ a,Has a E→∀ w,cC X L Φ w→o.quietAt P a (cC X L Φ) w v
theorem Det.tri {o:Oper} {v:Value} (h:Det P X o E L Φ v):Tri P n X o E L Φ Unit (fun _=>v) (fun _=>L) (fun _=>Φ):=by
 intro a w K Q' g j
 have b:=h a g.has w g.world
 have i:C4a o.op=false:=by
  cases ho:o.op with
  | defer c =>
   exfalso
   unfold Oper.quietAt at b
   have:(execOp a.eval o).run P w=Result.andThen ((resolve a.eval c o.type).run P w) fun d=>(pure (Next.defer d):Sem Next).run P:=by
    simp [execOp,ho]
    rfl
   rw [this] at b
   cases hr:(resolve a.eval c o.type).run P w with
   | ok d w'=>rw [hr] at b;exact b.elim
   | halt x w'=>rw [hr] at b;exact b.elim
  | _=>rfl
 refine A8j i ?_
 unfold Oper.quietAt Oper.quietUpon at b
 unfold Oper.wp Oper.upon
 split at b
 ·rename_i u w' hr;rw [hr];obtain ⟨rfl,rfl⟩:=b;exact j () _ g.world
 ·rename_i w' hr;rw [hr];obtain ⟨rfl,rfl⟩:=b;exact j () _ g.world
 ·rename_i f args w' hr;rw [hr];obtain ⟨rfl,p⟩:=b
  exact p.mono fun e l ⟨m,k⟩=>by subst m;exact j () _ k
 ·exact b.elim
theorem D4n {a:Array Oper} {i m:Nat} {o:Oper} {v:Value} (e:a[i]?=some o) (c:A6r a o E=some true) (b:X6 n o.dst=true)
  (d:Det P X o E L Φ v) (h:JI P n X a (i+1) m K Q (bX.put E o.dst v) L Φ):JI P n X a i (m+1) K Q E L Φ:=C9a e c b d.tri fun _=>h
theorem Has.weaken {a:Act} (h:Has a E) (hE:∀ e ∈ E',E.lookup e.1=some e.2):Has a E':=by
 intro t v e
 induction E' with
 | nil=>simp [List.lookup] at e
 | cons x xs ih =>
  obtain ⟨c,f⟩:=x
  by_cases ht:t=c
  ·subst ht
   simp [List.lookup] at e
   subst e
   exact h _ _ (hE (t,f) oom)
  ·have:(t == c)=false:=by simpa using ht
   simp only [List.lookup,this] at e
   exact ih (fun d b=>hE d (by simp [b])) e
def S6 (E:bX):bX→Prop
 | []=>True
 | (t,v)::rest=>E.lookup t=some v∧S6 E rest
theorem S3:∀ {E':bX},S6 E E'→∀ e ∈ E',E.lookup e.1=some e.2
 | [],_,e,he=>by cases he
 | (t,v)::rest,h,e,he=>by
  rcases List.mem_cons.1 he with rfl | he
  ·exact h.1
  ·exact S3 h.2 e he
theorem St.env {a:Act} {w:World} (h:St n X E L Φ a w) (hE:S6 E E'):St n X E' L Φ a w:=⟨h.size,h.defers,h.has.weaken (S3 hE),h.world⟩
theorem cC.mono {w:World} (h:cC X L Φ w) (hΦ:∀ q ∈ Φ',q ∈ Φ):cC X L Φ' w:=let ⟨p,hp⟩:=h;⟨p,⟨fun q a=>hp.facts q (hΦ q a),hp.sub,hp.le,hp.dom,hp.own,hp.may,hp.kept,hp.res⟩⟩
theorem cC.fact {w:World} (h:cC X L Φ w) (q:Pers) (b:∀ p:Hp,(∀ q ∈ Φ,q.p p)→q.p p):cC X L (q::Φ) w :=
 let ⟨p,hp⟩:=h;⟨p,⟨fun c a=>by rcases List.mem_cons.1 a with rfl | a;exact b _ hp.facts;exact hp.facts c a,hp.sub,hp.le,hp.dom,hp.own,hp.may,hp.kept,hp.res⟩⟩
theorem E8c {b:Array Oper} {i m:Nat} (q:Pers) (d:∀ p:Hp,(∀ q ∈ Φ,q.p p)→q.p p) (h:JI P n X b i m K Q E L (q::Φ)):JI P n X b i m K Q E L Φ :=
 fun a w c=>h a w ⟨c.size,c.defers,c.has,c.world.fact q d⟩
theorem F1u {c:Code} (q:Pers) (d:∀ p:Hp,(∀ q ∈ Φ,q.p p)→q.p p) (h:J P n X c Q E L (q::Φ)):J P n X c Q E L Φ :=
 fun a w b=>h a w ⟨b.size,b.defers,b.has,b.world.fact q d⟩
theorem E7c {c:Code} (E':bX) (hE:S6 E E') (h:J P n X c Q E' L Φ):J P n X c Q E L Φ:=fun a w b=>h a w (b.env hE)
theorem Has.lit {a:Act} (d:Has a E) {t:Nat} {g b:Bool} (h:E.lookup t=some (.bool g)) (f:g=b):Has a ((t,.bool b)::E):=by
 intro c v e
 by_cases he:c=t
 ·subst he;simp [List.lookup] at e;subst e;rw [← f];exact d _ _ h
 ·have:(c == t)=false:=by simpa using he
  simp only [List.lookup,this] at e
  exact d _ _ e
theorem D6y {c:Array Oper} {i m:Nat} (t:Nat) (g:Bool) (d:E.lookup t=some (.bool g)) (e:g=true→JI P n X c i m K Q ((t,.bool true)::E) L Φ) (f:g=false→JI P n X c i m K Q ((t,.bool false)::E) L Φ):JI P n X c i m K Q E L Φ:=by
 intro a w b
 cases hg:g with
 | true=>exact e hg a w ⟨b.size,b.defers,b.has.lit d hg,b.world⟩
 | false=>exact f hg a w ⟨b.size,b.defers,b.has.lit d hg,b.world⟩
theorem C7b {F:Fence} {k:Nat} {o:Oper} {a:Act} {K K':Act→World→Prop} {Q Q':Exit→Act→World→Prop} (g:∀ a w,K a w→K' a w) (j:∀ c a w,Q (.panic c) a w→Q' (.panic c) a w) (m:LetsOut Q→LetsOut Q') {r:Result Next} (h:o.uponIn F k P a K Q r):o.uponIn F k P a K' Q' r:=by
 cases r with
 | ok x w' =>
  cases x with
  | value v=>exact g _ _ h
  | skip=>exact g _ _ h
  | defer d=>exact g _ _ h
  | enter f args=>exact ⟨h.1,h.2.mono fun e i b=>by
    cases e with
    | returned v=>exact g _ _ b
    | panicked chain=>exact j _ _ _ b
    | outgrown=>exact m b⟩
  | row row args=>exact ⟨h.1,h.2.mono fun v i b=>g _ _ b⟩
  | round l f tmps assign body=>exact ⟨h.1,h.2.mono fun e i b=>by
    cases e with
    | returned v=>exact g _ _ b
    | panicked chain=>exact j _ _ _ b
    | outgrown=>exact m b⟩
  | _=>exact h.elim
 | halt x w'=>cases x<;>first | exact j _ _ _ h | exact h.elim
theorem C1e {F:Fence} {k:Nat} {b:Array Oper} {K:Act→World→Prop}:∀ (e d:List Oper) (a:Act) (w:World),wpListIn F k P b (Exit.then K Q) e a w→(∀ a w,K a w→wpListIn F k P b Q d a w)→wpListIn F k P b Q (e++d) a w
 | [],_,a,w,h,hk=>hk a w h
 | o::e,d,a,w,h,hk=>by
  simp only [List.cons_append,wpListIn] at h ⊢
  have g:=fun a w h=>C1e e d a w h hk
  split
  ·rename_i f
   rw [if_pos f] at h
   exact ⟨h.1,C7b (fun a w h=>g a w h) (fun c a w h=>h) (fun h=>h) h.2⟩
  ·rename_i f
   rw [if_neg f] at h
   exact ⟨h.1,g _ _ h.2⟩
theorem E2y (K K':Act→World→Prop) (Q:Exit→Act→World→Prop):Exit.then K (Exit.then K' Q)=Exit.then K Q:=by funext e a w;cases e<;>rfl
theorem E7w {b:Array Oper} {i:Nat} (k m:Nat) (E1:bX) (L1:Own) (Φ1:List Pers) (h:JI P n X b i k (fun a w=>St n X E1 L1 Φ1 a w) Q E L Φ) (e:JI P n X b (i+k) m K Q E1 L1 Φ1):JI P n X b i (k+m) K Q E L Φ:=by
 intro a w d
 rw [List.take_add,List.drop_drop]
 refine C1e (K:=fun a w=>St n X E1 L1 Φ1 a w) _ _ a w ?_ fun a w c=>e a w c
 rw [E2y]
 exact h a w d
end
def bW (c:BinOp) (k:IntKind) (a b:Int):Int :=
 k.wrap (match c with
  | .and=>BitVec.ofInt k.bits a &&& BitVec.ofInt k.bits b
  | .or=>BitVec.ofInt k.bits a ||| BitVec.ofInt k.bits b
  | .xor=>BitVec.ofInt k.bits a ^^^ BitVec.ofInt k.bits b
  | _=>BitVec.ofInt k.bits a &&& ~~~BitVec.ofInt k.bits b:BitVec k.bits).toNat
def C3p (c:BinOp) (u v:Value):Option Value :=
 match c,u,v with
 | .lss,.int j a,.int k b=>if j=k then some (.bool (decide (a<b))) else none
 | .leq,.int j a,.int k b=>if j=k then some (.bool (decide (a≤b))) else none
 | .gtr,.int j a,.int k b=>if j=k then some (.bool (decide (b<a))) else none
 | .geq,.int j a,.int k b=>if j=k then some (.bool (decide (b≤a))) else none
 | .eql,.int j a,.int k b=>if j=k then some (.bool (decide (a=b))) else none
 | .neq,.int j a,.int k b=>if j=k then some (.bool (!decide (a=b))) else none
 | .add,.int j a,.int k b=>if j=k then some (.int j (j.wrap (a+b))) else none
 | .sub,.int j a,.int k b=>if j=k then some (.int j (j.wrap (a - b))) else none
 | .mul,.int j a,.int k b=>if j=k then some (.int j (j.wrap (a * b))) else none
 | .and,.int j a,.int k b=>if j=k then some (.int j (bW .and j a b)) else none
 | .or,.int j a,.int k b=>if j=k then some (.int j (bW .or j a b)) else none
 | .xor,.int j a,.int k b=>if j=k then some (.int j (bW .xor j a b)) else none
 | .andNot,.int j a,.int k b=>if j=k then some (.int j (bW .andNot j a b)) else none
 | .eql,.string a,.string b=>some (.bool (a.toList == b.toList))
 | .neq,.string a,.string b=>some (.bool (!(a.toList == b.toList)))
 | _,_,_=>none
def E2c:Option TypeDesc→Option Value→Option Value
 | some (.slice _),some (.slice _ l _)=>some (.int .i64 l)
 | some .string,some (.string s)=>some (.int .i64 s.size)
 | _,_=>none
def D5l (c:Bool) (u v:Option Value) (n:Nat):Option Value :=
 match u,v with
 | some (.int j a),some (.int k b)=>if j=k∧n=2 then some (.int j (if c then (if b > a then b else a) else (if b<a then b else a))) else none
 | _,_=>none
def B6r (P:Program) (E:bX):Op→Option Value
 | .move x=>ev E x
 | .assign x=>ev E x
 | .pick c a b=>match ev E c with
  | some (.bool true)=>ev E a
  | some (.bool false)=>ev E b
  | _=>none
 | .binOp op _ x y _=>match ev E x,ev E y with
  | some u,some v=>C3p op u v
  | _,_=>none
 | .unOp op _ x=>match op,ev E x with
  | .not,some (.bool b)=>some (.bool !b)
  | .neg,some (.int k m)=>some (.int k (k.wrap (0 - m)))
  | _,_=>none
 | .extract t i=>match ev E t with
  | some (.tuple vs)=>vs[i]?
  | _=>none
 | .makeFunc fn first cap=>match first.toList.mapM (ev E),cap.toList.mapM (ev E) with
  | some fs,some cs=>some (.func fn fs.toArray cs.toArray)
  | _,_=>none
 | .call c=>match c.callee,c.args[0]?,c.argTypes[0]? with
  | .builtin .len,some x,some t=>E2c (P.underlying t) (ev E x)
  | .builtin .max,some x,_=>D5l true (ev E x) (c.args[1]?.bind (ev E)) c.args.size
  | .builtin .min,some x,_=>D5l false (ev E x) (c.args[1]?.bind (ev E)) c.args.size
  | _,_,_=>none
 | .nilCheck x=>match ev E x with
  | some (.pointer (some a))=>some (.pointer (some a))
  | _=>none
 | .convert S T x=>match P.underlying S,P.underlying T,ev E x with
  | some _,some (.int k),some (.int _ m)=>some (.int k (k.wrap m))
  | _,_,_=>none
 | .fieldAddr s x f=>match P.underlying s,ev E x with
  | some (.struct fields),some (.pointer (some a))=>match fields[f]? with
   | some fd=>match P.info? fd.type with
    | some i=>if i.size=0 then none else some (.pointer (some (a.add fd.offset)))
    | none=>none
   | none=>none
  | _,_=>none
 | .field s x f=>match P.underlying s,ev E x with
  | some (.struct fields),some (.agg cs)=>match fields[f]? with
   | some fd=>match P.underlying fd.type,P.info? fd.type with
    | some (.struct _),some i=>some (.agg (cs.extract fd.offset (fd.offset+i.size)))
    | some (.array _ _),some i=>some (.agg (cs.extract fd.offset (fd.offset+i.size)))
    | some _,some _=>cs[fd.offset]?
    | _,_=>none
   | none=>none
  | _,_=>none
 | _=>none
section
variable {P:Program} {n:Nat} {X:Cx} {Q:Exit→Act→World→Prop} {E E':bX} {L L':Own} {Φ Φ':List Pers}
def I6 (P:Program) (X:Cx) (o:Oper) (E:bX) (L:Own) (Φ:List Pers) (v:Value):Prop:=∀ a w,Has a E→cC X L Φ w→(execOp a.eval o).run P w=.ok (.value v) w
theorem I6.of_run {o:Oper} {v:Value} (h:∀ a w,Has a E→cC X L Φ w→(execOp a.eval o).run P w=.ok (.value v) w):I6 P X o E L Φ v:=h
theorem Det.of_run {o:Oper} {v:Value} (h:∀ a w,Has a E→cC X L Φ w→(execOp a.eval o).run P w=.ok (.value v) w):Det P X o E L Φ v:=by
 intro a c w b
 unfold Oper.quietAt
 rw [h a w c b]
 exact ⟨rfl,rfl⟩
theorem A8p {t:TypeId} {i:TypeInfo} (h:P.info? t=some i) (w:World):(typeInfo t).run P w=.ok i w:=by
 simp [typeInfo,h]
theorem A5s {t:TypeId} {i:TypeInfo} (h:P.info? t=some i) (w:World):(sizeOf t).run P w=.ok i.size w:=by
 simp [sizeOf,A8p h]
theorem D6j {a:BinOp} {u v r:Value} (h:C3p a u v=some r) (t:TypeId) (x y:Operand) (w:World) :
  (do eqGuard a t x y u v;binOp a t u v:Sem Value).run P w=.ok r w:=by
 unfold C3p at h
 split at h<;>(try split at h)<;>simp only [Option.some.injEq,reduceCtorEq] at h<;>(try subst h)<;>(try subst_vars) <;>
  simp [eqGuard,binOp,Op.intCmp,Op.intArith,Op.stringOp,Op.intBits,bW]<;>rfl
theorem E2t {a:Act} (d:Has a E):∀ {xs:List Operand} {b:List Value},xs.mapM (ev E)=some b→xs.map a.eval=b
 | [],b,h=>by simp at h;simp [h]
 | x::xs,b,h=>by
  simp only [List.mapM_cons,Option.bind_eq_bind,Option.bind_eq_some_iff] at h
  obtain ⟨v,e,us,c,h⟩:=h
  simp only [Option.pure_def,Option.some.injEq] at h
  subst h
  simp [C3 d e,E2t d c]
theorem A9z {a:Act} (c:Has a E) {xs:Array Operand} {b:List Value} (h:xs.toList.mapM (ev E)=some b):xs.map a.eval=b.toArray:=by
 have:=E2t c h
 apply Array.ext'
 simpa using this
theorem C0j {t:TypeId} {d:TypeDesc} (h:P.underlying t=some d) (w:World):(isAgg t).run P w=.ok (match d with | .struct _ | .array _ _=>true | _=>false) w:=by
 unfold isAgg
 rw [Sem.run_bind,run_underlying h]
 cases d<;>rfl
theorem E5g {o:Oper} {c:Call} {r:Bool} {x:Operand} {v:Value} {a:Act} (n:Has a E) (t:o.op=.call c) (g:(c.callee=.builtin .max∧r=true)∨(c.callee=.builtin .min∧r=false)) (d:c.args[0]?=some x)
  (h:D5l r (ev E x) (c.args[1]?.bind (ev E)) c.args.size=some v) (w:World):(execOp a.eval o).run P w=.ok (.value v) w:=by
 unfold D5l at h
 split at h
 ·rename_i j m k l u i
  split at h
  ·rename_i s
   obtain ⟨rfl,f⟩:=s
   simp only [Option.some.injEq] at h
   obtain ⟨y,e,i⟩:=Option.bind_eq_some_iff.1 i
   obtain ⟨xs⟩:∃ xs:List Operand,c.args=xs.toArray:=⟨c.args.toList,by simp⟩
   rename_i b
   rw [b] at d e f
   match xs,d,e,f with
   | [p,q],d,e,_ =>
    simp at d e
    subst d e
    rcases g with ⟨g,rfl⟩ | ⟨g,rfl⟩
    ·subst h
     simp [execOp,t,resolve,g,b,C3 n u,C3 n i,invoke,builtin,Builtin.max_,Builtin.max2]
    ·subst h
     simp [execOp,t,resolve,g,b,C3 n u,C3 n i,invoke,builtin,Builtin.min_,Builtin.min2]
  ·cases h
 ·cases h
theorem D0d {o:Oper} {v:Value} (h:B6r P E o.op=some v) (a:Act) (w:World) (f:Has a E):(execOp a.eval o).run P w=.ok (.value v) w:=by
 unfold B6r at h
 split at h<;>(rename_i b)
 ·simp [execOp,b,C3 f h]
 ·simp [execOp,b,C3 f h]
 ·split at h
  ·rename_i g
   simp [execOp,b,C3 f g,asBool,C3 f h]
  ·rename_i g
   simp [execOp,b,C3 f g,asBool,C3 f h]
  ·cases h
 ·split at h
  ·rename_i c x
   have:=D6j (P:=P) h
   simp only [execOp,b,C3 f c,C3 f x]
   rw [Sem.run_bind,this]
   rfl
  ·cases h
 ·split at h
  ·rename_i c
   simp only [Option.some.injEq] at h;subst h
   simp [execOp,b,C3 f c,Op.unary]
  ·rename_i c
   simp only [Option.some.injEq] at h;subst h
   simp [execOp,b,C3 f c,Op.unary,Op.intArith]
  ·cases h
 ·split at h
  ·rename_i c
   simp only [execOp,b,C3 f c,Instr.extract,h]
   simp
  ·cases h
 ·split at h
  ·rename_i k m
   simp only [Option.some.injEq] at h;subst h
   simp only [execOp,b,A9z f k,A9z f m,Instr.makeFunc]
   rfl
  ·cases h
 ·split at h
  ·rename_i g c r
   unfold E2c at h
   split at h
   ·rename_i j q
    simp only [Option.some.injEq] at h;subst h
    simp [execOp,b,resolve,g,c,r,C3 f q,invoke,builtin,Builtin.len_,run_underlying j,goInt]
   ·rename_i j q
    simp only [Option.some.injEq] at h;subst h
    simp [execOp,b,resolve,g,c,r,C3 f q,invoke,builtin,Builtin.len_,run_underlying j,goInt]
   ·cases h
  ·rename_i g c
   exact E5g f b (.inl ⟨g,rfl⟩) c h w
  ·rename_i g c
   exact E5g f b (.inr ⟨g,rfl⟩) c h w
  ·cases h
 ·split at h
  ·rename_i c
   simp only [Option.some.injEq] at h;subst h
   simp [execOp,b,C3 f c]
  ·cases h
 ·split at h
  ·rename_i t z c
   simp only [Option.some.injEq] at h;subst h
   simp [execOp,b,C3 f c,convert,run_underlying z,run_underlying t,Conv.intToInt]
  ·cases h
 ·split at h
  ·rename_i j c
   split at h
   ·rename_i n
    split at h
    ·rename_i u
     split at h
     ·cases h
     ·rename_i y
      simp only [Option.some.injEq] at h;subst h
      simp [execOp,b,Instr.fieldAt,C3 f c,run_underlying j,n,Instr.sureAddr,fieldPlace,A5s u,y]
    ·cases h
   ·cases h
  ·cases h
 ·split at h
  ·rename_i j c
   split at h
   ·rename_i n
    split at h
    ·rename_i k m
     simp only [Option.some.injEq] at h;subst h
     simp [execOp,b,Instr.field,C3 f c,run_underlying j,n,asAgg,part,C0j k,A5s m]
    ·rename_i k m
     simp only [Option.some.injEq] at h;subst h
     simp [execOp,b,Instr.field,C3 f c,run_underlying j,n,asAgg,part,C0j k,A5s m]
    ·rename_i d i s h4 k m
     have p:(isAgg _).run P w=.ok false w:=(C0j k w).trans (by
      cases d with
      | struct fs=>exact absurd rfl (s fs)
      | array l e=>exact absurd rfl (h4 l e)
      | _=>rfl)
     simp [execOp,b,Instr.field,C3 f c,run_underlying j,n,asAgg,part,p,h]
    ·cases h
   ·cases h
  ·cases h
 ·cases h
end
section
variable {P:Program} {n:Nat} {X:Cx} {K:Act→World→Prop} {Q:Exit→Act→World→Prop} {E E':bX} {L L':Own} {Φ Φ':List Pers}
def B2u (P:Program) (n:Nat) (a:Array Oper) (o:Oper) (E:bX):Option bX :=
 match A6r a o E,X6 n o.dst with
 | some true,true=>match B6r P E o.op with
  | some v=>some (bX.put E o.dst v)
  | none=>none
 | some false,true=>some (bX.put E o.dst undef)
 | _,_=>none
def A7b (P:Program) (n:Nat) (a:Array Oper):Nat→Nat→bX→Option bX
 | 0,_,E=>some E
 | m+1,i,E=>match a[i]? with
  | some o=>match B2u P n a o E with
   | some E'=>A7b P n a m (i+1) E'
   | none=>none
  | none=>none
def B9l (E:bX):bX→Option bX
 | []=>some []
 | (t,_)::rest=>match E.lookup t,B9l E rest with
  | some v,some r=>some ((t,v)::r)
  | _,_=>none
theorem C0b:∀ {E' R:bX},B9l E E'=some R→S6 E R
 | [],R,h=>by simp [B9l] at h;subst h;trivial
 | (t,u)::rest,R,h=>by
  unfold B9l at h
  split at h
  ·rename_i v r a hr
   simp only [Option.some.injEq] at h;subst h
   exact ⟨a,C0b hr⟩
  ·cases h
def E5w (P:Program) (n:Nat) (a:Array Oper) (m i:Nat) (E E':bX):Option bX:=match A7b P n a m i E with | some R=>B9l R E' | none=>none
theorem I6.pure {o:Oper} {v:Value} (h:B6r P E o.op=some v):I6 P X o E L Φ v:=fun a w b _=>D0d h a w b
theorem I6.det {o:Oper} {v:Value} (h:I6 P X o E L Φ v):Det P X o E L Φ v:=.of_run h
theorem Det.pure {o:Oper} {v:Value} (h:B6r P E o.op=some v):Det P X o E L Φ v:=(I6.pure h).det
theorem E7h {b:Array Oper} {m:Nat}:∀ (k i:Nat) {E R:bX},A7b P n b k i E=some R→JI P n X b (i+k) m K Q R L Φ→JI P n X b i (k+m) K Q E L Φ
 | 0,i,E,R,h,k=>by simp [A7b] at h;subst h;rw [Nat.zero_add];exact k
 | c+1,i,E,R,h,k=>by
  unfold A7b at h
  split at h
  ·rename_i o f
   split at h
   ·rename_i E1 a
    have e:JI P n X b (i+1) (c+m) K Q E1 L Φ:=E7h c (i+1) h (by rw [Nat.add_right_comm];exact k)
    rw [Nat.add_right_comm]
    unfold B2u at a
    split at a
    ·rename_i hr d
     split at a
     ·rename_i v g
      simp only [Option.some.injEq] at a;subst a
      exact D4n f hr d (.pure g) e
     ·cases a
    ·rename_i hr d
     simp only [Option.some.injEq] at a;subst a
     exact E1e f hr d e
    ·cases a
   ·cases h
  ·cases h
def JD (P:Program) (n:Nat) (X:Cx) (b:Array Oper) (i m:Nat) (K:Act→World→Prop) (E:bX) (L:Own) (Φ:List Pers):Prop :=
 ∀ a,a.tmps.size=n→a.defers=X.marks→Has a E→wpQuiet P b (cC X L Φ) (fun c=>∀ w',cC X L Φ w'→K c w') ((b.toList.drop i).take m) a
theorem cC.drawn {w:World} (h:cC X L Φ w) (k:Nat):cC X L Φ {w with drawn:=k} :=
 let ⟨p,hp⟩:=h;⟨p,⟨hp.facts,hp.sub,hp.le,hp.dom,hp.own,hp.may,⟨hp.kept.os,hp.kept.tape,hp.kept.output,hp.kept.size,hp.kept.block⟩,hp.res⟩⟩
theorem D1s {ρ:Option Nat} {o:Oper} {a:Act} {C:World→Prop} {K:Act→Prop} {K':Act→World→Prop} {Q':Exit→Act→World→Prop} {w:World} (k:C w) (h:∀ a w',C w'→K a→K' a w')
  (s:o.quietIn (FW ρ) 0 P a C K):o.wpIn (FW ρ) 0 P a w K' Q':=by
 obtain ⟨v,t,l⟩:=s
 have b:=t w k
 unfold Oper.quietAtIn at b
 have j:C4a o.op=false:=by
  cases ho:o.op with
  | defer c =>
   exfalso
   have:(execOp a.eval o).run P w=Result.andThen ((resolve a.eval c o.type).run P w) fun d=>(pure (Next.defer d):Sem Next).run P:=by
    simp [execOp,ho]
    rfl
   rw [this] at b
   cases hr:(resolve a.eval c o.type).run P w with
   | ok d w'=>rw [hr] at b;exact b.elim
   | halt x w'=>rw [hr] at b;exact b.elim
  | _=>rfl
 refine ⟨fun _ _=>trivial,?_⟩
 rw [Oper.semAt_eq _ _ _ (fun c n=>by rw [n] at j;cases j)]
 generalize (execOp a.eval o).run P w=r at *
 cases r with
 | ok x w' =>
  cases x<;>simp only [Oper.quietUponIn] at b<;>simp only [Oper.uponIn]
  case value u =>
   obtain ⟨i,m⟩:=b
   rw [i,m]
   exact h _ _ k l
  case skip =>
   obtain ⟨i,m⟩:=b
   rw [i,← m]
   exact h _ _ k l
  case enter f args =>
   obtain ⟨i,p,n⟩:=b
   rw [i]
   exact ⟨p,n.mono fun e q ⟨y,g⟩=>by subst y;exact h _ _ g l⟩
 | halt x w'=>simp only [Oper.quietUponIn] at b
theorem C8d {ρ:Option Nat} {c:Array Oper} {C:World→Prop} {i:Nat} {a:Act} {K:Act→Prop} {K':Act→World→Prop} {Q':Exit→Act→World→Prop} {w:World} (d:C w) (h:∀ a w',C w'→K a→K' a w')
  (b:qOpIn (FW ρ) 0 P c C i K a):wpOpIn (FW ρ) 0 P c Q' i K' a w:=by
 unfold qOpIn at b
 unfold wpOpIn
 split
 ·rename_i f;simp only [f] at b;exact h _ _ d b
 ·rename_i o f
  simp only [f] at b
  obtain ⟨g,b⟩:=b
  split
  ·rename_i e;simp only [e,if_true] at b;exact D1s d h b
  ·rename_i e;simp only [e] at b;exact ⟨g w d,h _ _ d b⟩
theorem B9s {ρ:Option Nat} {md:Region.Mode} {d:Array Oper} {C:World→Prop} {R:Act→Prop} {Q':Exit→Act→World→Prop} (f:∀ a w,C w→R a→Q' .normal a w):∀ (c:Nat) (b:Array Bool) (a:Act) (w:World),C w →
  wpAnyQIn (FW ρ) 0 P md d C R c b a→wpAnyIn (FW ρ) 0 P md d Q' c b a w
 | 0,_,_,_,hw,h=>⟨h.1,f _ _ hw h.2⟩
 | c+1,_,_,_,hw,h=>⟨fun g=>f _ _ hw (h.1 g),fun i k=>C8d hw (fun j w' e=>B9s f c _ j w' e) (h.2 i k)⟩
theorem C9l {ρ:Option Nat} {c:Array Oper} {C:World→Prop} {R:Act→Prop}:∀ (l:List Oper) (a:Act),wpQuiet P c C R l a→wpQuietIn (FW ρ) 0 P c C R l a
 | [],a,h=>h
 | o::l,a,h=>by
  unfold wpQuiet at h
  unfold wpQuietIn
  refine ⟨fun _ _ _ _=>trivial,?_⟩
  split
  ·rename_i d
   rw [if_pos d] at h
   obtain ⟨v,e,i⟩:=h
   refine ⟨v,fun w g=>?_,C9l l _ i⟩
   have b:=e w g
   unfold Oper.quietAt at b
   unfold Oper.quietAtIn
   generalize (execOp a.eval o).run P w=r at *
   cases r with
   | ok x w' =>
    cases x with
    | value u=>exact b
    | skip=>exact b
    | enter f args=>exact ⟨b.1,A8f,B5v b.2⟩
    | _=>exact b.elim
   | halt x w'=>exact b.elim
  ·rename_i d
   rw [if_neg d] at h
   exact C9l l _ h
theorem D4j {ρ:Option Nat} {id:Nat} {b:Array Oper} {C:World→Prop} {R:Act→World→Prop} {a:Act} {w:World} {Q:Exit→Act→World→Prop} (f:P.follows .mixedOrders=true) (e:Region.lexB .any b=true) (g:C {w with drawn:=w.drawn+1})
  (h:wpQuiet P b C (fun c=>∀ w',C w'→R c w') b.toList a) (hR:∀ c w',R c w'→Q .normal c w'):(Code.region id b true).wpIn (FW ρ) 0 P Q a w:=by
 simp only [Region.lexB,Bool.and_eq_true] at e
 refine wpIn_region_any f (B9s (R:=fun c=>∀ w',C w'→R c w') (fun _ w' d h=>hR _ _ (h w' d)) _ _ _ _ g ?_)
 have:=wpAnyQIn_lex (F:=FW ρ) (n:=0) (C:=C) (md:=.any) e.1 b.toList 0 (Array.replicate b.size false) a oom (by simpa using e.2) (C9l _ _ h)
 simpa using this
theorem D9u {id:Nat} {b:Array Oper} (m:Nat) (e:P.follows .mixedOrders=true) (d:Region.lexB .any b=true) (f:b.size=m) (h:JD P n X b 0 m (Q .normal) E L Φ):J P n X (.region id b true) Q E L Φ :=
 fun a w c=>D4j (C:=cC X L Φ) e d (c.world.drawn _) (by
  have:=h a c.size c.defers c.has
  rwa [List.drop_zero,List.take_of_length_le (by simp [← f])] at this) (fun _ _ h=>h)
theorem C6f {c:Array Oper} {i:Nat} (h:JQ n X K E L Φ):JD P n X c i 0 K E L Φ:=fun a e d f=>by
 rw [List.take_zero];exact wpQuiet_nil fun w' b=>h a w' ⟨e,d,f,b⟩
theorem Has.putO {a:Act} (h:Has a E) {d:Option Nat} (b:X6 n d=true) (c:a.tmps.size=n) (v:Value):Has (a.put d v) (bX.put E d v):=by
 cases d with
 | none=>exact h
 | some d=>exact h.put (by rw [c];simpa [X6,Nat.blt_eq] using b) v
theorem D4e {b:Array Oper} {i m:Nat} {o:Oper} {v:Value} (k:b[i]?=some o) (g:A6r b o E=some true) (f:X6 n o.dst=true)
  (j:Det P X o E L Φ v) (h:JD P n X b (i+1) m K (bX.put E o.dst v) L Φ):JD P n X b i (m+1) K E L Φ:=by
 intro a e c d
 rw [B2k k,List.take_succ_cons]
 unfold wpQuiet
 rw [if_pos (A0o d g)]
 exact ⟨v,j a d,h _ (by rw [Act.put_size,e]) (by rw [Act.put_defers',c]) (d.putO f e v)⟩
theorem E2i {b:Array Oper} {i m:Nat} {o:Oper} (j:b[i]?=some o) (g:A6r b o E=some false) (f:X6 n o.dst=true)
  (h:JD P n X b (i+1) m K (bX.put E o.dst undef) L Φ):JD P n X b i (m+1) K E L Φ:=by
 intro a d c e
 rw [B2k j,List.take_succ_cons]
 unfold wpQuiet
 rw [if_neg (by rw [A0o e g];simp)]
 exact h _ (by rw [Act.put_size,d]) (by rw [Act.put_defers',c]) (e.putO f d undef)
theorem E5o {b:Array Oper} {m:Nat}:∀ (k i:Nat) {E R:bX},A7b P n b k i E=some R→JD P n X b (i+k) m K R L Φ→JD P n X b i (k+m) K E L Φ
 | 0,i,E,R,h,k=>by simp [A7b] at h;subst h;rw [Nat.zero_add];exact k
 | c+1,i,E,R,h,k=>by
  unfold A7b at h
  split at h
  ·rename_i o f
   split at h
   ·rename_i E1 a
    have e:JD P n X b (i+1) (c+m) K E1 L Φ:=E5o c (i+1) h (by rw [Nat.add_right_comm];exact k)
    rw [Nat.add_right_comm]
    unfold B2u at a
    split at a
    ·rename_i hr d
     split at a
     ·rename_i v g
      simp only [Option.some.injEq] at a;subst a
      exact D4e f hr d (.pure g) e
     ·cases a
    ·rename_i hr d
     simp only [Option.some.injEq] at a;subst a
     exact E2i f hr d e
    ·cases a
   ·cases h
  ·cases h
theorem D7i {b:Array Oper} {i m:Nat} (t:Nat) (g:Bool) (e:E.lookup t=some (.bool g)) (h:g=true→JD P n X b i m K ((t,.bool true)::E) L Φ) (j:g=false→JD P n X b i m K ((t,.bool false)::E) L Φ):JD P n X b i m K E L Φ:=by
 intro a d c f
 cases hg:g with
 | true=>exact h hg a d c (f.lit e hg)
 | false=>exact j hg a d c (f.lit e hg)
theorem B9h {b:Array Oper} {C:World→Prop} {R T:Act→Prop}:∀ (d c:List Oper) (a:Act),wpQuiet P b C R d a→(∀ a,R a→wpQuiet P b C T c a)→wpQuiet P b C T (d++c) a
 | [],_,a,h,hk=>hk a h
 | o::d,c,a,h,hk=>by
  simp only [List.cons_append,wpQuiet] at h ⊢
  have f:=fun a h=>B9h d c a h hk
  split
  ·rename_i e
   rw [if_pos e] at h
   obtain ⟨v,g,i⟩:=h
   exact ⟨v,g,f _ i⟩
  ·rename_i e
   rw [if_neg e] at h
   exact f _ h
theorem B2h {d:Array Oper} {C:World→Prop} {R:Act→World→Prop} (b:∀ w,¬ C w):∀ (l:List Oper) (a:Act),wpQuiet P d C (fun f=>∀ w',C w'→R f w') l a
 | [],_=>fun w' c=>absurd c (b w')
 | o::l,a=>by
  unfold wpQuiet
  split
  ·exact ⟨undef,fun w e=>absurd e (b w),B2h b l _⟩
  ·exact B2h b l _
theorem E7b {b:Array Oper} {i:Nat} (k m:Nat) (E1:bX) (h:JD P n X b i k (fun a _=>a.tmps.size=n∧a.defers=X.marks∧Has a E1) E L Φ)
  (l:JD P n X b (i+k) m K E1 L Φ):JD P n X b i (k+m) K E L Φ:=by
 intro a e d o
 by_cases hC:∃ w,cC X L Φ w
 ·obtain ⟨w,c⟩:=hC
  rw [List.take_add,List.drop_drop]
  exact B9h _ _ a (h a e d o) fun a hR=>by obtain ⟨f,g,j⟩:=hR w c;exact l a f g j
 ·exact B2h (fun w c=>hC ⟨w,c⟩) _ _
def TypeDesc.row:TypeDesc→Bool
 | .struct _ | .array _ _=>true
 | _=>false
def TyB (P:Program) (T sz:Nat) (agg:Bool):Bool :=
 match P.info? T,P.underlying T with
 | some i,some d=>i.size == sz&&(TypeDesc.row d == agg)
 | _,_=>false
structure Ty (P:Program) (T sz:Nat) (agg:Bool):Prop where
 ok:TyB P T sz agg=true
theorem Ty.size {T sz:Nat} {agg:Bool} (h:Ty P T sz agg) (w:World):(sizeOf T).run P w=.ok sz w:=by
 have:=h.ok
 unfold TyB at this
 split at this
 ·rename_i i d a b
  simp only [Bool.and_eq_true,beq_iff_eq] at this
  rw [A5s a,this.1]
 ·cases this
theorem Ty.agg {T sz:Nat} {agg:Bool} (h:Ty P T sz agg) (w:World):(isAgg T).run P w=.ok agg w:=by
 have:=h.ok
 unfold TyB at this
 split at this
 ·rename_i i d b a
  simp only [Bool.and_eq_true,beq_iff_eq] at this
  rw [C0j a,← this.2]
  cases d<;>rfl
 ·cases this
theorem A1h (b o j:Nat):(⟨b,o,none⟩:Addr).add j=⟨b,o+j,none⟩:=by unfold Addr.add;split<;>simp_all
def A7i (h:Hp) (a:Addr) (us:List Value):Prop:=us=[]∨(a.spot=none∧∃ c T b,h a.block=some (.cells c T b)∧∀ j v,us[j]?=some v→c[a.off+j]?=some v)
def at_ (a:Addr) (us:List Value):Pers:=⟨fun h=>A7i h a us,fun d b=>match b with | .inl e=>.inl e | .inr ⟨h0,c,T,fr,h1,h2⟩=>.inr ⟨h0,c,T,fr,d _ _ h1,h2⟩⟩
theorem A7i.cell {h:Hp} {a:Addr} {us:List Value} (f:A7i h a us) {w:World} (e:h.sub w) {j:Nat} {v:Value} (d:us[j]?=some v):w.cell? (a.add j)=some v:=by
 obtain ⟨b,o,g⟩:=a
 obtain rfl | ⟨h0,c,T,fr,h1,h2⟩:=f
 ·simp at d
 simp only at h0 h1 h2
 subst h0
 rw [A1h]
 simp [World.cell?,e _ _ h1,h2 j v d]
theorem B7d {T sz:Nat} (b:Ty P T sz true) {a:Addr} {us:List Value} (d:us.length=sz) {w:World} (e:∀ j v,us[j]?=some v→w.cell? (a.add j)=some v) :
  (Instr.loadAt T (.pointer (some a))).run P w=.ok (.agg us.toArray) w:=by
 have c:=run_loadCells_list (P:=P) w a us e
 rw [d] at c
 simp [Instr.loadAt,Instr.sureAddr,loadVar,b.agg,b.size,c]
theorem B7p {T:Nat} (b:Ty P T 1 false) {a:Addr} {v:Value} {w:World} (c:w.cell? (a.add 0)=some v) :
  (Instr.loadAt T (.pointer (some a))).run P w=.ok v w:=by
 have:w.cell? a=some v:=by simpa [Addr.add] using c
 simp [Instr.loadAt,Instr.sureAddr,loadVar,b.agg,this]
abbrev bx (b:Nat) (cs:List Value) (T:Nat):Nat×Obj:=(b,.cells cs.toArray T (0,0))
theorem D0a {p:Hp} {w:World} (h:StH X L Φ p w) {i:Nat} {e:Nat×Obj} (a:L[i]?=some e):w.heap[e.1]?=some e.2:=(h.own.1 e (List.mem_of_getElem? a)).1
theorem C4u {p:Hp} {w:World} (h:StH X L Φ p w) {i b T:Nat} {cs:List Value} (a:L[i]?=some (bx b cs T)) (k:Nat):w.cell? ⟨b,k,none⟩=cs[k]?:=by
 have:=D0a h a
 simp only at this
 simp [World.cell?,this]
theorem D6 {o:Oper} {T sz b off TT:Nat} {x:Operand} {cs us:List Value} (h:Ty P T sz true) (c:o.op=.load T x) (d:ev E x=some (.pointer (some ⟨b,off,none⟩))) (i:Nat) (k:L[i]?=some (bx b cs TT))
  (e:(cs.drop off).take sz=us) (g:us.length=sz):I6 P X o E L Φ (.agg us.toArray):=.of_run fun m w l ⟨p,f⟩=>by
 have:(Instr.loadAt T (.pointer (some ⟨b,off,none⟩))).run P w=.ok (.agg us.toArray) w:=B7d h g fun j v a=>by
  rw [A1h,C4u f k,← a,← e,List.getElem?_take,if_pos,List.getElem?_drop]
  have:=(List.getElem?_eq_some_iff.1 a).1
  omega
 simp [execOp,c,C3 l d,this]
theorem A2 {o:Oper} {T b off TT:Nat} {x:Operand} {cs:List Value} {v:Value} (f:Ty P T 1 false) (a:o.op=.load T x) (c:ev E x=some (.pointer (some ⟨b,off,none⟩))) (i:Nat) (g:L[i]?=some (bx b cs TT))
  (d:cs[off]?=some v):I6 P X o E L Φ v:=.of_run fun j w h ⟨p,e⟩=>by
 have:(Instr.loadAt T (.pointer (some ⟨b,off,none⟩))).run P w=.ok v w:=B7p f (by rw [A1h,C4u e g];simpa using d)
 simp [execOp,a,C3 h c,this]
end
section
variable {P:Program} {n:Nat} {X:Cx} {K:Act→World→Prop} {Q:Exit→Act→World→Prop} {E E':bX} {L L':Own} {Φ Φ':List Pers}
theorem B3h (w:World) (o:Obj) (k:Nat):(w.alloc o).heap[k]?=if k=w.heap.size then some o else w.heap[k]?:=by
 show (w.heap.push o)[k]?=_
 rw [Array.getElem?_push]
theorem Hp.lt {p:Hp} {w:World} (h:p.sub w) {b:Nat} {o:Obj} (e:p b=some o):b<w.heap.size:=(Array.getElem?_eq_some_iff.1 (h b o e)).1
theorem E4g {p:Hp} {w:World} (h:p.sub w) (o:Obj):p.sub (w.alloc o):=fun b u e=>by
 rw [B3h,if_neg (Nat.ne_of_lt (Hp.lt h e))];exact h b u e
theorem A2i.lt {p:Hp} {w:World} (h:A2i L p w) {e:Nat×Obj} (a:e ∈ L):e.1<w.heap.size:=(Array.getElem?_eq_some_iff.1 (h.1 e a).1).1
theorem A2i.alloc {p:Hp} {w:World} (h:A2i L p w) (b:p.sub w) (o:Obj):A2i ((w.heap.size,o)::L) p (w.alloc o):=by
 constructor
 ·intro e a
  rcases List.mem_cons.1 a with rfl | a
  ·refine ⟨by rw [B3h,if_pos rfl],?_⟩
   cases hp:p w.heap.size with
   | none=>rfl
   | some u=>exact absurd (Hp.lt b hp) (Nat.lt_irrefl _)
  ·have:=h.1 e a
   exact ⟨by rw [B3h,if_neg (Nat.ne_of_lt (h.lt a))];exact this.1,this.2⟩
 ·simp only [List.map_cons,List.nodup_cons]
  refine ⟨fun c=>?_,h.2⟩
  obtain ⟨e,a,d⟩:=List.mem_map.1 c
  have:=h.lt a
  omega
theorem KeptBut.alloc {M:List Nat} {a w:World} (h:KeptBut M a w) (o:Obj):KeptBut M a (w.alloc o) :=
 ⟨h.os,h.tape,h.output,by have:=h.size;simp;omega,fun k c b=>by rw [B3h,if_neg (by have:=h.size;omega)];exact h.block k c b⟩
theorem opx {p:Prop} (h:p:=by omega):p:=h
theorem cC.alloc {w:World} (h:cC X L Φ w) (o:Obj):cC X ((w.heap.size,o)::L) Φ (w.alloc o) :=
 let ⟨p,hp⟩:=h
 ⟨p,⟨hp.facts,E4g hp.sub o,hp.le,hp.dom,hp.own.alloc hp.sub o,fun e a=>by
  rcases List.mem_cons.1 a with rfl | a
  ·exact .inr hp.kept.size
  ·exact hp.may e a,hp.kept.alloc o,fun d c=>by
  obtain ⟨b,j,g,i⟩:=hp.res d c
  have f:=(Array.getElem?_eq_some_iff.1 b).1
  refine ⟨by rw [B3h,if_neg opx];exact b,j,fun e a=>?_,i⟩
  rcases List.mem_cons.1 a with rfl | a
  ·simp only;omega
  ·exact g e a⟩⟩
def blk (b:Nat) (o:Obj):Pers:=⟨fun h=>h b=some o,fun a e=>a _ _ e⟩
theorem A2t {o:Oper} {T:Nat} {x:Operand} {v:Value} {cs:List Value} (d:o.op=.box T x) (g:ev E x=some v) (f:v.cells=cs.toArray) :
  Tri P n X o E L Φ Nat (fun b=>.pointer (some ⟨b,0,none⟩)) (fun b=>bx b cs T::L) (fun _=>Φ):=by
 intro a w K Q c e
 have hr:(execOp a.eval o).run P w=.ok (.value (.pointer (some ⟨w.heap.size,0,none⟩))) (w.alloc (.cells cs.toArray T (0,0))):=by
  simp [execOp,d,C3 c.has g,Instr.box,newVar,newRow,f]
 refine A8j (by rw [d];rfl) ?_
 unfold Oper.wp
 rw [hr]
 exact e w.heap.size _ (c.world.alloc _)
structure Zero (P:Program) (T:Nat) (cs:List Value):Prop where
 ok:((P.info? T).bind (·.zero)).map (·.cells)=some cs.toArray
theorem Zero.run {T:Nat} {cs:List Value} (h:Zero P T cs) (w:World):∃ v,(zeroValue T).run P w=.ok v w∧v.cells=cs.toArray:=by
 obtain ⟨v,a,b⟩:=Option.map_eq_some_iff.1 h.ok
 obtain ⟨i,c,d⟩:=Option.bind_eq_some_iff.1 a
 exact ⟨v,by simp [zeroValue,A8p c,d],b⟩
theorem S4 {o:Oper} {T:Nat} {cs:List Value} (h:Zero P T cs) (c:o.op=.alloc T) :
  Tri P n X o E L Φ Nat (fun b=>.pointer (some ⟨b,0,none⟩)) (fun b=>bx b cs T::L) (fun _=>Φ):=by
 intro a w K Q e f
 obtain ⟨v,d,g⟩:=h.run w
 have hr:(execOp a.eval o).run P w=.ok (.value (.pointer (some ⟨w.heap.size,0,none⟩))) (w.alloc (.cells cs.toArray T (0,0))):=by
  simp [execOp,c,Instr.alloc,d,newVar,newRow,g]
 refine A8j (by rw [c];rfl) ?_
 unfold Oper.wp
 rw [hr]
 exact f w.heap.size _ (e.world.alloc _)
theorem D0r {i b:Nat} {o u:Obj} (a:L[i]?=some (b,o)):(L.set i (b,u)).map Prod.fst=L.map Prod.fst:=by
 apply List.ext_getElem?
 intro k
 simp only [List.getElem?_map,List.getElem?_set]
 by_cases hk:i=k
 ·subst hk
  obtain ⟨d,c⟩:=List.getElem?_eq_some_iff.1 a
  simp [d,c]
 ·simp [hk]
theorem C2f (c:(L.map Prod.fst).Nodup) {i k b:Nat} {o u:Obj} (e:L[i]?=some (b,o)) (d:L[k]?=some (b,u)):i=k:=by
 have a:(L.map Prod.fst)[i]?=some b:=by simp [e]
 have f:(L.map Prod.fst)[k]?=some b:=by simp [d]
 exact (List.getElem?_inj (List.getElem?_eq_some_iff.1 a).1 c).1 (a.trans f.symm)
theorem A2i.set {p:Hp} {w w':World} (h:A2i L p w) {i b:Nat} {o u:Obj} (d:L[i]?=some (b,o)) (j:w'.heap[b]?=some u) (c:∀ k,k≠b→w'.heap[k]?=w.heap[k]?):A2i (L.set i (b,u)) p w':=by
 constructor
 ·intro e l
  obtain ⟨k,a⟩:=List.mem_iff_getElem?.1 l
  rw [List.getElem?_set] at a
  by_cases hik:i=k
  ·subst hik
   have:=(List.getElem?_eq_some_iff.1 d).1
   simp [this] at a
   subst a
   exact ⟨j,(h.1 _ (List.mem_of_getElem? d)).2⟩
  ·rw [if_neg hik] at a
   obtain ⟨g,o'⟩:=e
   have f:g≠b:=fun e=>hik (C2f h.2 d (e▸a))
   have:=h.1 _ (List.mem_of_getElem? a)
   exact ⟨by rw [c _ f];exact this.1,this.2⟩
 ·rw [D0r d];exact h.2
theorem cC.set {w w':World} (h:cC X L Φ w) {i b:Nat} {o u:Obj} (m:L[i]?=some (b,o)) (y:w'.heap[b]?=some u) (a:∀ k,k≠b→w'.heap[k]?=w.heap[k]?)
  (s:w'.os=w.os) (ht:w'.tape=w.tape) (g:w'.output=w.output) (t:w'.heap.size=w.heap.size):cC X (L.set i (b,u)) Φ w' :=
 let ⟨p,hp⟩:=h
 have l:=List.mem_of_getElem? m
 ⟨p,⟨hp.facts,fun k o' e=>by
   have:k≠b:=fun n=>by subst n;rw [(hp.own.1 _ l).2] at e;cases e
   rw [a _ this];exact hp.sub k o' e,hp.le,hp.dom,hp.own.set m y a,fun e v=>by
   obtain ⟨k,c⟩:=List.mem_iff_getElem?.1 v
   rw [List.getElem?_set] at c
   by_cases hik:i=k
   ·subst hik
    have:=(List.getElem?_eq_some_iff.1 m).1
    simp [this] at c
    subst c
    exact hp.may (b,o) l
   ·rw [if_neg hik] at c
    exact hp.may _ (List.mem_of_getElem? c),
  ⟨s.trans hp.kept.os,ht.trans hp.kept.tape,g.trans hp.kept.output,by rw [t];exact hp.kept.size,fun k c f=>by
   have r:k≠b:=by
    rintro rfl
    rcases hp.may (k,o) l with j | j
    ·exact f j
    ·simp only at j;omega
   rw [a k r];exact hp.kept.block k c f⟩,fun d x=>by
   obtain ⟨j,z,q,h4⟩:=hp.res d x
   refine ⟨by rw [a d.1 (fun n=>q _ l n.symm)];exact j,z,fun e v=>?_,h4⟩
   obtain ⟨k,c⟩:=List.mem_iff_getElem?.1 v
   rw [List.getElem?_set] at c
   by_cases hik:i=k
   ·subst hik
    have:=(List.getElem?_eq_some_iff.1 m).1
    simp [this] at c
    subst c
    exact q (b,o) l
   ·rw [if_neg hik] at c
    exact q _ (List.mem_of_getElem? c)⟩⟩
def Z4 (cs us:List Value) (off:Nat):List Value:=cs.take off++us++cs.drop (off+us.length)
theorem D8 {o:Oper} {T sz b off TT:Nat} {agg:Bool} {x y:Operand} {v:Value} {cs us cs':List Value} (hT:Ty P T sz agg) (q:o.op=.store T x y) (z:ev E x=some (.pointer (some ⟨b,off,none⟩))) (s:ev E y=some v)
  (i:Nat) (l:L[i]?=some (bx b cs TT)) (g:v.cells=us.toArray) (r:us.length=sz) (t:us.all (·.oneCell')=true) (hc:Z4 cs us off=cs') (u:Nat.ble (off+sz) cs.length=true) :
  Tri P n X o E L Φ Unit (fun _=>undef) (fun _=>L.set i (bx b cs' TT)) (fun _=>Φ):=by
 intro a w K Q d f
 obtain ⟨p,hp⟩:=d.world
 have m:w.heap[b]?=some (.cells cs.toArray TT (0,0)):=D0a hp l
 have j:off+us.length≤cs.length:=by rw [r];exact Nat.le_of_ble_eq_true u
 have e:=run_storeCells_at P b off TT us 0 cs.toArray w m (by simpa using j) (fun v g=>by simpa using List.all_eq_true.1 t v g)
 have hr:(execOp a.eval o).run P w=.ok .skip (w.setRow b cs'.toArray):=by
  have h:(storeVar T ⟨b,off,none⟩ v).run P w=.ok () (w.setRow b cs'.toArray):=by
   have c:(storeCells ⟨b,off,none⟩ us).run P w=.ok () (w.setRow b cs'.toArray):=by rw [e,← hc];simp [Z4]
   simp only [storeVar,Sem.run_bind,hT.size,Result.andThen_ok,g,List.size_toArray,r,ne_eq,not_true_eq_false,if_false,c]
  simp [execOp,q,C3 d.has z,C3 d.has s,Instr.storeAt,Instr.sureAddr,h]
 refine A8j (by rw [q];rfl) ?_
 unfold Oper.wp
 rw [hr]
 refine f () _ (d.world.set l (setRow_heap w b _ _ TT (0,0) m) (fun k f=>setRow_other w b k _ f) rfl rfl rfl oom)
def E5x {α:Type}:List Bool→List α→List α
 | true::m,x::xs=>x::E5x m xs
 | false::m,_::xs=>E5x m xs
 | _,_=>[]
theorem C4j {α:Type}:∀ (m:List Bool) (xs:List α),(E5x m xs).Sublist xs
 | true::m,x::xs=>(C4j m xs).cons_cons x
 | false::m,x::xs=>(C4j m xs).cons x
 | [],_=>List.nil_sublist _
 | true::_,[]=>List.nil_sublist _
 | false::_,[]=>List.nil_sublist _
theorem mk {α:Type} {L L':List α} (m:List Bool) (h:E5x m L=L'):L'.Sublist L:=h▸C4j m L
theorem A2i.sub {p:Hp} {w:World} (h:A2i L p w) (a:L'.Sublist L):A2i L' p w:=⟨fun e b=>h.1 e (a.subset b),(a.map Prod.fst).nodup h.2⟩
theorem cC.sub {w:World} (h:cC X L Φ w) (a:L'.Sublist L):cC X L' Φ w :=
 let ⟨p,hp⟩:=h;⟨p,⟨hp.facts,hp.sub,hp.le,hp.dom,hp.own.sub a,fun e b=>hp.may e (a.subset b),hp.kept,fun d c=>let ⟨h1,h2,h3,h4⟩:=hp.res d c;⟨h1,h2,fun e b=>h3 e (a.subset b),h4⟩⟩⟩
theorem E6p {α:Type} {xs ys:List α} {is:List Nat} (h:is.mapM (xs[·]?)=some ys):∀ y ∈ ys,y ∈ xs:=by
 induction is generalizing ys with
 | nil=>simp at h;subst h;intro y a;cases a
 | cons i is ih =>
  simp only [List.mapM_cons,Option.bind_eq_bind,Option.bind_eq_some_iff] at h
  obtain ⟨v,c,us,b,h⟩:=h
  simp only [Option.pure_def,Option.some.injEq] at h
  subst h
  intro y a
  rcases List.mem_cons.1 a with rfl | a
  ·exact List.mem_of_getElem? c
  ·exact ih b y a
def A9 (Φ Φ':List Pers):Prop:=∀ p:Hp,(∀ q ∈ Φ,q.p p)→∀ q ∈ Φ',q.p p
theorem A9.pick (is:List Nat) (h:is.mapM (Φ[·]?)=some Φ'):A9 Φ Φ':=fun _ b q a=>b q (E6p h q a)
theorem A9.nil:A9 Φ []:=fun _ _ _ h=>by cases h
theorem bT:A9 Φ []:=A9.nil
theorem A9.refl:A9 Φ Φ:=fun _ h=>h
theorem A9.cons {q:Pers} (c:∀ p:Hp,(∀ q ∈ Φ,q.p p)→q.p p) (h:A9 Φ Φ'):A9 Φ (q::Φ'):=fun p b d a=>by
 rcases List.mem_cons.1 a with rfl | a
 ·exact c p b
 ·exact h p b d a
theorem cC.foll {w:World} (h:cC X L Φ w) (a:A9 Φ Φ'):cC X L Φ' w:=let ⟨p,hp⟩:=h;⟨p,⟨a p hp.facts,hp.sub,hp.le,hp.dom,hp.own,hp.may,hp.kept,hp.res⟩⟩
theorem cC.freeze {w:World} (h:cC X L Φ w) {i b:Nat} {o:Obj} (n:L[i]?=some (b,o)):cC X (L.eraseIdx i) (blk b o::Φ) w:=by
 obtain ⟨p,a⟩:=h
 have s:=List.mem_of_getElem? n
 have m:=a.own.1 _ s
 have l:∀ e ∈ L.eraseIdx i,e.1≠b:=by
  intro e f g
  obtain ⟨k,c⟩:=List.mem_iff_getElem?.1 f
  rw [List.getElem?_eraseIdx] at c
  obtain ⟨x,y⟩:=e
  simp only at g
  subst g
  split at c
  ·have:=C2f a.own.2 n c;omega
  ·have:=C2f a.own.2 n c;omega
 refine ⟨fun k=>if k=b then some o else p k,⟨?_,?_,?_,?_,?_,?_,a.kept,fun d v=>let ⟨h1,h2,h3,h4⟩:=a.res d v;⟨h1,by simp only [if_neg (fun j:d.1=b=>h3 _ s j.symm)];exact h2,fun e f=>h3 e ((List.eraseIdx_sublist _ _).subset f),h4⟩⟩⟩
 ·have t:p.le (fun k=>if k=b then some o else p k):=fun k u e=>by
   have:k≠b:=fun j=>by subst j;rw [m.2] at e;cases e
   simp only [if_neg this];exact e
  intro q r
  rcases List.mem_cons.1 r with rfl | r
  ·simp [blk]
  ·exact q.mono t (a.facts q r)
 ·intro k u e
  by_cases c:k=b
  ·subst c;simp at e;subst e;exact m.1
  ·simp only [if_neg c] at e;exact a.sub k u e
 ·intro k u e
  have:=a.le k u e
  have c:k≠b:=fun j=>by subst j;rw [m.2] at this;cases this
  simp only [if_neg c];exact this
 ·intro k c
  by_cases hkb:k=b
  ·subst hkb;exact .inr (a.may _ s)
  ·simp only [if_neg hkb] at c;exact a.dom k c
 ·exact ⟨fun e f=>⟨((a.own.sub (List.eraseIdx_sublist _ _)).1 e f).1,by simp only [if_neg (l e f)];exact (a.own.1 e ((List.eraseIdx_sublist _ _).subset f)).2⟩,(a.own.sub (List.eraseIdx_sublist _ _)).2⟩
 ·exact fun e f=>a.may e ((List.eraseIdx_sublist _ _).subset f)
end
structure HasBody (P:Program) (f:FuncId):Prop where
 ok : ((P.funcs[f]?).map fun fn => !fn.body.isNone && !(fn.name == "runtime.NumGoroutine")) = some true
abbrev cx (w:World) (h:Hp) (M:List Nat):Cx:=⟨w,h,M,none,[]⟩
def cI (P:Program) (f:FuncId) (args:List Value) (L0:Own) (Φ0:List Pers) (α:Type) (val:α→Value) (L1:α→Own) (Φ1:α→List Pers):Prop :=
 HasBody P f∧∀ (w:World) (h:Hp),(∀ q ∈ Φ0,q.p h)→h.sub w→A2i L0 h w →
  Calls P f args.toArray w fun e w'=>∃ x,e=.returned (val x)∧cC (cx w h (L0.map Prod.fst)) (L1 x) (Φ1 x) w'
abbrev J5 (P:Program) (f:FuncId) (args:List Value) (Φ0:List Pers) (v:Value):Prop:=cI P f args [] Φ0 Unit (fun _=>v) (fun _=>[]) (fun _=>[])
section
variable {P:Program} {n:Nat} {X:Cx} {K:Act→World→Prop} {Q:Exit→Act→World→Prop} {E E':bX} {L L':Own} {Φ Φ':List Pers}
def Res (P:Program) (n:Nat) (X:Cx) (b:Func) (E:bX) (L:Own) (Φ:List Pers) (v:Value):Prop:=∀ a w,St n X E L Φ a w→(results b a.tmps).run P w=.ok v w
def C9n (a:Array Value):ResultVar→Sem Value
 | .tmp t=>pure (a.getD t undef)
 | .cell t T=>do loadVar T (← asAddr (a.getD t undef))
theorem B3m (b:Func) (a:Array Value):results b a=(do
  let vs ← b.results.mapM (C9n a)
  pure (if h:vs.size=1 then vs[0] else .tuple vs)):=by
 unfold results
 rfl
def C4d (P:Program) (n:Nat) (X:Cx) (r:ResultVar) (E:bX) (L:Own) (Φ:List Pers) (v:Value):Prop:=∀ a w,St n X E L Φ a w→(C9n a.tmps r).run P w=.ok v w
theorem B0 {t:Nat} {v:Value} (h:E.lookup t=some v):C4d P n X (.tmp t) E L Φ v:=fun a w b=>by
 have:=b.has _ _ h
 simp [C9n,this]
theorem Has.getD {a:Act} (b:Has a E) {t:Nat} {v:Value} (h:E.lookup t=some v):a.tmps.getD t undef=v:=by
 have:=b _ _ h
 simp [this]
theorem D4 {t T sz b:Nat} {off TT:Nat} {cs us:List Value} (l:Ty P T sz true) (h:E.lookup t=some (.pointer (some ⟨b,off,none⟩))) (i:Nat) (m:L[i]?=some (bx b cs TT)) (f:(cs.drop off).take sz=us) (k:us.length=sz) :
  C4d P n X (.cell t T) E L Φ (.agg us.toArray):=fun a w d=>by
 obtain ⟨p,g⟩:=d.world
 have hr:(Instr.loadAt T (.pointer (some ⟨b,off,none⟩))).run P w=.ok (.agg us.toArray) w:=B7d l k fun j v e=>by
  rw [A1h,C4u g m,← e,← f,List.getElem?_take,if_pos,List.getElem?_drop]
  have:=(List.getElem?_eq_some_iff.1 e).1
  omega
 have c:(loadVar T ⟨b,off,none⟩).run P w=.ok (.agg us.toArray) w:=by simpa [Instr.loadAt,Instr.sureAddr] using hr
 simp only [C9n,d.has.getD h,asAddr,Sem.run_bind,Sem.run_pure,Result.andThen_ok,c]
theorem D9w {t T b:Nat} {off TT:Nat} {cs:List Value} {v:Value} (g:Ty P T 1 false) (h:E.lookup t=some (.pointer (some ⟨b,off,none⟩))) (i:Nat) (j:L[i]?=some (bx b cs TT)) (e:cs[off]?=some v) :
  C4d P n X (.cell t T) E L Φ v:=fun a w d=>by
 obtain ⟨p,f⟩:=d.world
 have hr:(Instr.loadAt T (.pointer (some ⟨b,off,none⟩))).run P w=.ok v w:=B7p g (by rw [A1h,C4u f j];simpa using e)
 have c:(loadVar T ⟨b,off,none⟩).run P w=.ok v w:=by simpa [Instr.loadAt,Instr.sureAddr] using hr
 simp only [C9n,d.has.getD h,asAddr,Sem.run_bind,Sem.run_pure,Result.andThen_ok,c]
theorem A0x {b:Func} (c:b.results=#[]):Res P n X b E L Φ (.tuple #[]):=fun a w _=>by simp [B3m,c]
theorem N4 {b:Func} {r:ResultVar} {v:Value} (c:b.results=#[r]) (h:C4d P n X r E L Φ v):Res P n X b E L Φ v:=fun a w d=>by
 simp [B3m,c,h a w d]
theorem Q9 {b:Func} {r s:ResultVar} {v u:Value} (d:b.results=#[r,s]) (h:C4d P n X r E L Φ v) (k:C4d P n X s E L Φ u):Res P n X b E L Φ (.tuple #[v,u]):=fun a w c=>by
 simp [B3m,d,h a w c,k a w c]
theorem F4d {c:Func} {r s t:ResultVar} {v u x:Value} (d:c.results=#[r,s,t]) (h:C4d P n X r E L Φ v) (k:C4d P n X s E L Φ u) (l:C4d P n X t E L Φ x):Res P n X c E L Φ (.tuple #[v,u,x]):=fun a w b=>by
 simp [B3m,d,h a w b,k a w b,l a w b]
def D3u (P:Program) (X:Cx) (a:Func) (α:Type) (val:α→Value) (L1:α→Own) (Φ1:α→List Pers):Exit→Act→World→Prop :=
 bodyPostM (FW none) 0 P a fun e w'=>∃ x,e=.returned (val x)∧cC X (L1 x) (Φ1 x) w'
theorem D8q {f:FuncId} {g:Func} {c:Code} {args:List Value} {L0:Own} {Φ0:List Pers} {α:Type} {val:α→Value} {L1:α→Own} {Φ1:α→List Pers}
  (q : P.funcs[f]? = some g) (i : g.body = some c) (m : (g.name == "runtime.NumGoroutine") = false) (hn : g.ntmps = n) (j : Nat.ble args.length n = true) (E0 : bX) (hE : S6 ((List.range args.length).zip args) E0)
  (h:∀ X:Cx,X.M=L0.map Prod.fst→X.rho=none→X.D=[]→J P n X c (D3u P X g α val L1 Φ1) E0 L0 Φ0):cI P f args L0 Φ0 α val L1 Φ1:=by
 refine ⟨⟨by simp [q,i,m]⟩,fun w p hp hs ho=>?_⟩
 have o:args.length≤n:=Nat.le_of_ble_eq_true j
 refine (callsIn_wide (n:=0)).1 (callsIn_of_wp_marks (F:=Fence.wide) q i trivial (h (cx w p (L0.map Prod.fst)) rfl rfl rfl _ w ⟨?_,rfl,?_,p,⟨hp,hs,Hp.le_refl p,fun b i=>.inl i,ho,fun e u=>.inl (List.mem_map_of_mem u),KeptBut.refl _ w,fun d z=>by cases z⟩⟩))
 ·simp [hn];omega
 ·have s:Has {tmps:=args.toArray++Array.replicate (g.ntmps - args.toArray.size) undef,defers:=[]} ((List.range args.length).zip args):=by
   intro t v e
   have x:∀ (xs:List Value) (k:Nat),((List.range' k xs.length).zip xs).lookup t=some v→k≤t∧xs[t - k]?=some v:=by
    intro xs
    induction xs with
    | nil=>intro k a;simp at a
    | cons y ys ih =>
     intro k a
     rw [List.length_cons,List.range'_succ,List.zip_cons_cons] at a
     by_cases ht:t=k
     ·subst ht;simp [List.lookup] at a;simp [a]
     ·have:(t == k)=false:=by simpa using ht
      simp only [List.lookup,this] at a
      obtain ⟨s,l⟩:=ih (k+1) a
      refine ⟨by omega,?_⟩
      rw [show t - k=(t - (k+1))+1 by omega,List.getElem?_cons_succ]
      exact l
   rw [List.range_eq_range'] at e
   obtain ⟨_,l⟩:=x args 0 e
   have r:args[t]?=some v:=by simpa using l
   have:=(List.getElem?_eq_some_iff.1 r).1
   rw [Array.getElem?_append_left (by simpa using this)]
   simpa using r
  exact s.weaken (S3 hE)
def Cx.wd (X:Cx) (ds:List (Nat×Obj)):Cx:=⟨X.w0,X.h0,X.M,X.rho,ds⟩
theorem cC.take {w:World} {d:Nat×Obj} {ds:List (Nat×Obj)} (m:d.1 ∉ ds.map Prod.fst) (o:Obj) (h:cC (X.wd (d::ds)) L Φ w):cC (X.wd ds) L Φ (w.putObj d.1 o):=by
 obtain ⟨p,a⟩:=h
 obtain ⟨t,r,n,c⟩:=a.res d (List.mem_cons_self ..)
 refine ⟨p,⟨a.facts,fun k o e=>?_,a.le,a.dom,⟨fun e g=>⟨?_,(a.own.1 e g).2⟩,a.own.2⟩,a.may,⟨a.kept.os,a.kept.tape,a.kept.output,by rw [World.putObj_size];exact a.kept.size,fun k j l=>?_⟩,fun i f=>?_⟩⟩
 ·have:k≠d.1:=fun b=>by subst b;rw [r] at e;cases e
  rw [World.putObj_heap_other this];exact a.sub k o e
 ·rw [World.putObj_heap_other (n e g)];exact (a.own.1 e g).1
 ·have:k≠d.1:=fun b=>by
   subst b
   rcases c with c | c
   ·have:X.w0.heap.size≤d.1:=c
    have:d.1<X.w0.heap.size:=j
    omega
   ·exact l c
  rw [World.putObj_heap_other this];exact a.kept.block k j l
 ·have:i.1≠d.1:=fun b=>m (b▸List.mem_map_of_mem f)
  obtain ⟨q,s⟩:=a.res i (List.mem_cons_of_mem _ f)
  exact ⟨by rw [World.putObj_heap_other this];exact q,s⟩
theorem B2e {c:Func} {a:Array Value} {R:Ending→World→Prop}:∀ (ds:List (Nat×Obj)),(ds.map Prod.fst).Nodup→(∀ d ∈ ds,d.2=.deferred (some []))→∀ w,cC (X.wd ds) L Φ w →
  (∀ w',cC (X.wd []) L Φ w'→∃ v,(results c a).run P w'=.ok v w'∧R (.returned v) w')→LeavesInM (FW none) 0 P c a R (ds.map (C1t ·.1)) .returning w
 | [],_,_,w,hw,k=>k w hw
 | d::ds,hn,ho,w,hw,k=>by
  rw [List.map_cons] at hn
  obtain ⟨g,i⟩:=List.nodup_cons.1 hn
  obtain ⟨p,f⟩:=hw
  have b:=(f.res d (List.mem_cons_self ..)).1
  rw [ho d (List.mem_cons_self ..)] at b
  exact ⟨by simp,.inl ⟨d.1,_,rfl,run_takeDeferred b,B2e ds i (fun e h=>ho e (List.mem_cons_of_mem _ h)) _ (cC.take g _ ⟨p,f⟩) k⟩⟩
theorem D8w {X':Cx} {a:Act} {w:World} {j:Func} {α:Type} {val:α→Value} {L1:α→Own} {Φ1:α→List Pers} {v:Value} (hX:X'=X.wd X'.D) (g:X=X.wd []) (b:X.rho=none) (c:(X'.D.map Prod.fst).Nodup∧∀ d ∈ X'.D,d.2=.deferred (some [])) (hr:Res P n X j E L Φ v) (x:α) (k:val x=v) (m:List.Sublist (L1 x) L) (hΦ:A9 Φ (Φ1 x))
  (i:St n X' E L Φ a w):LeavesInM (FW none) 0 P j a.tmps (fun e w'=>∃ x,e=.returned (val x)∧cC X (L1 x) (Φ1 x) w') a.defers .returning w:=by
 have l:X'.marks=X'.D.map (C1t ·.1):=by rw [hX];unfold Cx.marks Cx.wd;simp only [b]
 rw [i.defers,l]
 refine B2e (X:=X) (L:=L) (Φ:=Φ) X'.D c.1 c.2 w (hX▸i.world) fun w' f=>⟨v,?_,x,by rw [k],?_⟩
 ·rw [g] at hr
  exact hr {a with defers:=[]} w' ⟨i.size,by unfold Cx.marks Cx.wd;simp only [b];rfl,i.has,f⟩
 ·rw [g];exact (f.sub m).foll hΦ
theorem C3j {X':Cx} {f:Func} {α:Type} {val:α→Value} {L1:α→Own} {Φ1:α→List Pers} {v:Value} (hX:X'=X.wd X'.D) (b:X.rho=none∧X.D=[]) (c:(X'.D.map Prod.fst).Nodup∧∀ d ∈ X'.D,d.2=.deferred (some [])) (hr:Res P n X f E L Φ v) (x:α) (i:val x=v) (k:List.Sublist (L1 x) L) (hΦ:A9 Φ (Φ1 x)) :
  JQ n X' (D3u P X f α val L1 Φ1 .ret) E L Φ:=fun a w j=>D8w hX (by obtain ⟨m,l,M,r,D⟩:=X;obtain ⟨g,e⟩:=b;simp only at g e;subst g e;rfl) b.1 c hr x i k hΦ j
theorem D9a {X':Cx} {f:Func} {α:Type} {val:α→Value} {L1:α→Own} {Φ1:α→List Pers} {v:Value} (hX:X'=X.wd X'.D) (b:X.rho=none∧X.D=[]) (c:(X'.D.map Prod.fst).Nodup∧∀ d ∈ X'.D,d.2=.deferred (some [])) (hr:Res P n X f E L Φ v) (x:α) (i:val x=v) (k:List.Sublist (L1 x) L) (hΦ:A9 Φ (Φ1 x)) :
  JQ n X' (D3u P X f α val L1 Φ1 .normal) E L Φ:=fun a w j=>D8w hX (by obtain ⟨m,l,M,r,D⟩:=X;obtain ⟨g,e⟩:=b;simp only at g e;subst g e;rfl) b.1 c hr x i k hΦ j
theorem A1y {f:FuncId} (h:HasBody P f) (args:Array Value) (w:World):(callFunc f args).run P w=.ok (.enter f args) w:=by
 have:=h.ok
 obtain ⟨e,b,a⟩:=Option.map_eq_some_iff.1 this
 simp only [Bool.and_eq_true,Bool.not_eq_true'] at a
 obtain ⟨c,d⟩:=a
 simp only [callFunc,Sem.run_bind,run_program,Result.andThen_ok,b,d,c,Bool.false_eq_true,if_false]
 rfl
theorem C9m {o:Oper} {c:Call} {d:Operand} {k:FuncId} {first cap:Array Value} {e:List Value} {a:Act} (f:Has a E) (i:o.op=.call c) (j:c.callee=.value d) (g:ev E d=some (.func (.func k) first cap))
  (b:c.args.toList.mapM (ev E)=some e) (h:HasBody P k) (w:World):(execOp a.eval o).run P w=.ok (.enter k (first++e.toArray++cap)) w:=by
 simp [execOp,i,resolve,j,C3 f g,Deferred.ofValue,A9z f b,invoke,A1y h]
theorem KeptBut.of_call {M:List Nat} {M0:List Nat} {c w w':World} (h:KeptBut M c w) (k:KeptBut M0 w w') (g:∀ b ∈ M0,b ∈ M∨c.heap.size≤b):KeptBut M c w' :=
 ⟨k.os.trans h.os,k.tape.trans h.tape,k.output.trans h.output,Nat.le_trans h.size k.size,fun i f e=>by
  rw [k.block i (Nat.lt_of_lt_of_le f h.size) (fun a=>by rcases g i a with d | d;exact e d;omega)]
  exact h.block i f e⟩
theorem cC.call {L0 L1 L2:Own} {Φ1:List Pers} {w w':World} {p:Hp} (m:StH X L Φ p w) (y:L.Perm (L0++L2)) (hc:cC (cx w p (L0.map Prod.fst)) L1 Φ1 w'):cC X (L1++L2) (Φ1++Φ) w':=by
 obtain ⟨p',f⟩:=hc
 have u:p.le p':=f.le
 have h:∀ e ∈ L0++L2,e.1 ∈ X.M∨X.w0.heap.size≤e.1:=fun e a=>m.may e (y.symm.subset a)
 have l:A2i (L0++L2) p w:=⟨fun e a=>m.own.1 e (y.symm.subset a),(y.map Prod.fst).nodup_iff.1 m.own.2⟩
 have t:=l.2
 rw [List.map_append,List.nodup_append] at t
 have k:∀ e ∈ L2,e.1 ∉ L0.map Prod.fst:=fun e a hm=>t.2.2 e.1 hm e.1 (List.mem_map_of_mem a) rfl
 have i:∀ e ∈ L2,e.1<w.heap.size:=fun e a=>l.lt (List.mem_append_right _ a)
 refine ⟨p',⟨?_,f.sub,Hp.le_trans m.le u,?_,?_,?_,m.kept.of_call f.kept fun b v=>?_,fun d hd=>?_⟩⟩
 ·intro q x
  rcases List.mem_append.1 x with x | x
  ·exact f.facts q x
  ·exact q.mono u (m.facts q x)
 ·intro b v
  rcases f.dom b v with j | j | j
  ·exact m.dom b j
  ·obtain ⟨e,a,rfl⟩:=List.mem_map.1 j
   exact .inr (h e (List.mem_append_left _ a))
  ·exact .inr (.inr (Nat.le_trans m.kept.size j))
 ·constructor
  ·intro e a
   rcases List.mem_append.1 a with a | a
   ·exact f.own.1 e a
   ·have j:=l.1 e (List.mem_append_right _ a)
    refine ⟨by rw [f.kept.block _ (i e a) (k e a)];exact j.1,?_⟩
    cases h2:p' e.1 with
    | none=>rfl
    | some o =>
     rcases f.dom e.1 (by rw [h2];simp) with g | g | g
     ·exact absurd j.2 g
     ·exact absurd g (k e a)
     ·have:=i e a;simp only at g;omega
  ·rw [List.map_append,List.nodup_append]
   refine ⟨f.own.2,t.2.1,?_⟩
   intro b v c hc
   obtain ⟨e,a,rfl⟩:=List.mem_map.1 v
   obtain ⟨z,n,rfl⟩:=List.mem_map.1 hc
   intro a0
   rcases f.may e a with g | g
   ·exact k z n (a0▸g)
   ·have:=i z n;simp only at g;omega
 ·intro e a
  rcases List.mem_append.1 a with a | a
  ·rcases f.may e a with g | g
   ·obtain ⟨z,n,h4⟩:=List.mem_map.1 g
    rw [← h4];exact h z (List.mem_append_left _ n)
   ·exact .inr (Nat.le_trans m.kept.size g)
  ·exact h e (List.mem_append_right _ a)
 ·obtain ⟨e,a,rfl⟩:=List.mem_map.1 v
  exact h e (List.mem_append_left _ a)
 ·obtain ⟨j,h2,g,h4⟩:=m.res d hd
  have a4:=(Array.getElem?_eq_some_iff.1 j).1
  have s:d.1 ∉ L0.map Prod.fst:=fun hm=>by
   obtain ⟨e,a,a3⟩:=List.mem_map.1 hm
   exact g e (y.symm.subset (List.mem_append_left _ a)) a3
  refine ⟨(f.kept.block d.1 a4 s).trans j,?_,fun e a=>?_,h4⟩
  ·cases h5:p' d.1 with
   | none=>rfl
   | some o =>
    rcases f.dom d.1 (by rw [h5];simp) with r | r | r
    ·exact absurd h2 r
    ·exact absurd r s
    ·simp only at r;omega
  ·rcases List.mem_append.1 a with a | a
   ·rcases f.may e a with r | r
    ·exact fun hE=>s (hE▸r)
    ·simp only at r;omega
   ·exact g e (y.symm.subset (List.mem_append_right _ a))
theorem D6q {o:Oper} {c:Call} {r:Operand} {k:FuncId} {first cap:Array Value} {m args:List Value} {L0 L2:Own} {Φ0:List Pers} {α:Type} {val:α→Value} {L1:α→Own} {Φ1:α→List Pers}
  (b:cI P k args L0 Φ0 α val L1 Φ1) (l:o.op=.call c) (v:c.callee=.value r) (s:ev E r=some (.func (.func k) first cap)) (d:c.args.toList.mapM (ev E)=some m) (y:(first++m.toArray++cap).toList=args)
  (hΦ:A9 Φ Φ0) (i:L.Perm (L0++L2)):Tri P n X o E L Φ α val (fun x=>L1 x++L2) (fun x=>Φ1 x++Φ):=by
 intro a w K Q q u
 obtain ⟨p,f⟩:=q.world
 have hr:=C9m q.has l v s d b.1 w
 refine A8j (by rw [l];rfl) ?_
 unfold Oper.wp
 rw [hr,Oper.upon_enter]
 have g:A2i (L0++L2) p w:=⟨fun e j=>f.own.1 e (i.symm.subset j),(i.map Prod.fst).nodup_iff.1 f.own.2⟩
 have:=b.2 w p (hΦ p f.facts) f.sub (g.sub (List.sublist_append_left _ _))
 rw [← y,Array.toArray_toList] at this
 refine this.mono fun e w' ⟨x,j,t⟩=>?_
 subst j
 exact u x w' (cC.call f i t)
theorem A8n {o:Oper} {c:Call} {j:Operand} {k:FuncId} {first cap:Array Value} {i args:List Value} {Φ0:List Pers} {v:Value}
  (b:J5 P k args Φ0 v) (n:o.op=.call c) (t:c.callee=.value j) (l:ev E j=some (.func (.func k) first cap)) (d:c.args.toList.mapM (ev E)=some i) (u:(first++i.toArray++cap).toList=args)
  (hΦ:A9 Φ Φ0):Det P X o E L Φ v:=by
 intro a r w ⟨p,f⟩
 have hr:=C9m r n t l d b.1 w
 unfold Oper.quietAt
 rw [hr]
 refine ⟨rfl,?_⟩
 have:=b.2 w p (hΦ p f.facts) f.sub (show A2i [] p w from ⟨fun e g=>(by cases g),List.nodup_nil⟩)
 rw [← u,Array.toArray_toList] at this
 refine this.mono fun e w' ⟨x,g,m⟩=>⟨g,?_⟩
 have h:=cC.call (L0:=[]) (L2:=L) f oom m
 exact h.foll fun p f q s=>f q (List.mem_append_right _ s)
theorem D3k {c:Code} {β:Type} (I:β→Prop) (Ei:β→bX) (Li:β→Own) (Φi:β→List Pers) (μ:β→Nat) (b:β) (m:I b) (hE:S6 E (Ei b)) (o:List.Sublist (Li b) L) (hΦ:A9 Φ (Φi b))
  (h:∀ x,I x→J P n X c (Exit.then (fun a w=>∃ y,I y∧μ y<μ x∧St n X (Ei y) (Li y) (Φi y) a w) Q) (Ei x) (Li x) (Φi x)):J P n X (.loop c) Q E L Φ:=by
 intro a w d
 refine wpIn_loop_ghost (fun k a w=>∃ x,I x∧μ x=k∧St n X (Ei x) (Li x) (Φi x) a w) (μ b) ⟨b,m,rfl,d.size,d.defers,d.has.weaken (S3 hE),(d.world.sub o).foll hΦ⟩ ?_
 rintro k a w ⟨x,j,rfl,g⟩
 refine Code.wpIn_mono (fun e a w q=>?_) (h x j a w g)
 cases e with
 | normal=>obtain ⟨y,i,l,f⟩:=q;exact ⟨μ y,l,y,i,rfl,f⟩
 | _=>exact q
end
section
variable {P:Program} {n:Nat} {X:Cx} {K:Act→World→Prop} {Q:Exit→Act→World→Prop} {E E':bX} {L L':Own} {Φ Φ':List Pers}
theorem A0j {k:IntKind} {m:Int} (a:k.min≤m) (b:m≤k.max):k.wrap m=m:=by
 cases k<;>simp only [IntKind.wrap,IntKind.min,IntKind.max,IntKind.bits,IntKind.signed] at *<;>simp at a b ⊢<;>omega
theorem G9 {o:Oper} {v u:Value} (h:I6 P X o E L Φ v) (a:v=u):I6 P X o E L Φ u:=a▸h
theorem E9u {o:Oper} {T U:TypeId} {x y:Operand} {k:IntKind} {a b c:Int} (f:o.op=.binOp .add T x y U) (d:ev E x=some (.int k a)) (i:ev E y=some (.int k b)) (g:a+b=c) (e:k.min≤c) (h:c≤k.max):I6 P X o E L Φ (.int k c) :=
 .pure (by simp [B6r,f,d,i,C3p,g,A0j e h])
theorem E8h {o:Oper} {T U:TypeId} {x y:Operand} {k:IntKind} {a b c:Int} (f:o.op=.binOp .sub T x y U) (d:ev E x=some (.int k a)) (i:ev E y=some (.int k b)) (g:a - b=c) (e:k.min≤c) (h:c≤k.max):I6 P X o E L Φ (.int k c) :=
 .pure (by simp [B6r,f,d,i,C3p,g,A0j e h])
theorem B4 {o:Oper} {T U:TypeId} {x y:Operand} {a b c:Int} (e:o.op=.binOp .add T x y U) (d:ev E x=some (.int .i64 a)) (g:ev E y=some (.int .i64 b)) (f:a+b=c) (h:-9223372036854775808≤c∧c≤9223372036854775807):I6 P X o E L Φ (.int .i64 c):=E9u e d g f h.1 h.2
theorem Q6 {o:Oper} {T U:TypeId} {x y:Operand} {a b c:Int} (e:o.op=.binOp .sub T x y U) (d:ev E x=some (.int .i64 a)) (g:ev E y=some (.int .i64 b)) (f:a - b=c) (h:-9223372036854775808≤c∧c≤9223372036854775807):I6 P X o E L Φ (.int .i64 c):=E8h e d g f h.1 h.2
theorem E2m {o:Oper} {T U:TypeId} {x y:Operand} {k:IntKind} {a b c:Int} (g:o.op=.binOp .rem T x y U) (f:ev E x=some (.int k a)) (i:ev E y=some (.int k b)) (e:b≠0) (h:a.tmod b=c):I6 P X o E L Φ (.int k c) :=
 .of_run fun j w d _=>by simp [execOp,g,C3 d f,C3 d i,eqGuard,binOp,Op.intDiv,e,h]
theorem U3 {o:Oper} {T U:TypeId} {x y:Operand} {k j:IntKind} {a b c:Int} (e:o.op=.binOp .shr T x y U) (f:ev E x=some (.int k a)) (g:ev E y=some (.int j b)) (i:0≤b) (h:a.fdiv (2 ^ (min b.toNat k.bits))=c):I6 P X o E L Φ (.int k c) :=
 .of_run fun l w d _=>by
  have:¬ b<0:=by omega
  simp [execOp,e,C3 d f,C3 d g,eqGuard,binOp,Op.shift,this,h]
theorem B4m {o:Oper} {T U:TypeId} {x y:Operand} {k j:IntKind} {a b c:Int} (e:o.op=.binOp .shl T x y U) (f:ev E x=some (.int k a)) (g:ev E y=some (.int j b)) (i:0≤b) (h:k.wrap (a * 2 ^ (min b.toNat k.bits))=c):I6 P X o E L Φ (.int k c) :=
 .of_run fun l w d _=>by
  have:¬ b<0:=by omega
  simp [execOp,e,C3 d f,C3 d g,eqGuard,binOp,Op.shift,this,h]
theorem B2l {o:Oper} {S T:TypeId} {x:Operand} {k j:IntKind} {a c:Int} (h:P.underlying T=some (.int j)) (e:(P.underlying S).isSome=true) (f:o.op=.convert S T x) (g:ev E x=some (.int k a)) (i:j.wrap a=c):I6 P X o E L Φ (.int j c) :=
 .of_run fun m w l _=>by
  obtain ⟨d,b⟩:=Option.isSome_iff_exists.1 e
  simp [execOp,f,C3 l g,convert,run_underlying h,run_underlying b,Conv.intToInt,i]
theorem E9e {o:Oper} {T U:TypeId} {x y:Operand} {a b:Bool} (e:P.underlying T=some .bool) (f:o.op=.binOp .neq T x y U) (d:ev E x=some (.bool a)) (g:ev E y=some (.bool b)):I6 P X o E L Φ (.bool (!(a == b))) :=
 .of_run fun h w c _=>by simp [execOp,f,C3 c d,C3 c g,eqGuard,binOp,Op.equal,Op.maxDepth,run_equalIn_bool' w 9999 T a b e]
def E0j (P:Program) (T:Nat) (a:List (Nat×Value)):Option (Array Value) :=
 match (P.info? T).bind (·.zero),P.underlying T with
 | some z,some (.struct fields) =>
  match fields.mapM fun f=>(P.info? f.type).map fun i=>(f.offset,i.size) with
  | some places=>Instr.fill (places[·]?) z.cells a
  | none=>none
 | some z,some (.array _ e)=>match P.info? e with
  | some i=>Instr.fill (fun k=>some (k * i.size,i.size)) z.cells a
  | none=>none
 | _,_=>none
theorem C1q {α β:Type} {g:α→Sem β} {f:α→Option β} {w:World} (b:∀ x y,f x=some y→(g x).run P w=.ok y w):∀ {xs:List α} {ys:List β},xs.mapM f=some ys→(xs.mapM g).run P w=.ok ys w
 | [],ys,h=>by simp at h;subst h;rfl
 | x::xs,ys,h=>by
  simp only [List.mapM_cons,Option.bind_eq_bind,Option.bind_eq_some_iff] at h
  obtain ⟨y,c,zs,a,h⟩:=h
  simp only [Option.pure_def,Option.some.injEq] at h
  subst h
  simp [List.mapM_cons,b x y c,C1q b a]
theorem D3t {α β:Type} {g:α→Sem β} {f:α→Option β} {w:World} (a:∀ x y,f x=some y→(g x).run P w=.ok y w) {xs:Array α} {ys:Array β} (h:xs.mapM f=some ys):(xs.mapM g).run P w=.ok ys w:=by
 rw [Array.mapM_eq_mapM_toList] at h ⊢
 simp only [Option.map_eq_map,Option.map_eq_some_iff] at h
 obtain ⟨zs,b,rfl⟩:=h
 simp [C1q a b]
def B3z (E:bX):List (Nat×Operand)→Option (List (Nat×Value))
 | []=>some []
 | (i,x)::rest=>match ev E x,B3z E rest with
  | some v,some r=>some ((i,v)::r)
  | _,_=>none
theorem B2f {a:Act} (c:Has a E):∀ {ps:List (Nat×Operand)} {b:List (Nat×Value)},B3z E ps=some b→ps.map (fun (i,x)=>(i,a.eval x))=b
 | [],b,h=>by simp [B3z] at h;simp [h]
 | (i,x)::rest,b,h=>by
  unfold B3z at h
  split at h
  ·rename_i v r d hr
   simp only [Option.some.injEq] at h;subst h
   simp [C3 c d,B2f c hr]
  ·cases h
theorem U8 {o:Oper} {T:Nat} {ps:Array (Nat×Operand)} {vs:List (Nat×Value)} {cs:List Value} (p:o.op=.build T ps) (s:B3z E ps.toList=some vs) (b:E0j P T vs=some cs.toArray):I6 P X o E L Φ (.agg cs.toArray) :=
 .of_run fun a w t _=>by
  have q:(ps.map fun (x:Nat×Operand)=>(x.1,a.eval x.2)).toList=vs:=by simpa using B2f t s
  unfold E0j at b
  split at b
  ·rename_i z c g m
   obtain ⟨i,h,g⟩:=Option.bind_eq_some_iff.1 g
   split at b
   ·rename_i places l
    have d:(zeroValue T).run P w=.ok z w:=by simp [zeroValue,A8p h,g]
    have n:(c.mapM fun f=>(do pure (f.offset,← sizeOf f.type):Sem (Nat×Nat))).run P w=.ok places w:=by
     refine D3t (fun f y r=>?_) l
     obtain ⟨i,h,rfl⟩:=Option.map_eq_some_iff.1 r
     simp [A5s h]
    simp only [execOp,p,Instr.build,Sem.run_bind,d,Result.andThen_ok,run_underlying m,n,q,b]
    rfl
   ·cases b
  ·rename_i z k e g m
   obtain ⟨i,h,g⟩:=Option.bind_eq_some_iff.1 g
   split at b
   ·rename_i u j
    have d:(zeroValue T).run P w=.ok z w:=by simp [zeroValue,A8p h,g]
    simp only [execOp,p,Instr.build,Sem.run_bind,d,Result.andThen_ok,run_underlying m,A5s j,q,b]
    rfl
   ·cases b
  ·cases b
def sl {α:Type} (c:α→List Value) (q:Option Addr) (xs:List α):Pers:=⟨fun h=>match q with | none=>xs=[] | some a=>A7i h a (xs.flatMap c),fun {h h'} hl hp=>by
 cases q with
 | none=>exact hp
 | some a=>exact (at_ a (xs.flatMap c)).mono hl hp⟩
theorem B4b {α:Type} {c:α→List Value} {sz:Nat} (a:∀ x,(c x).length=sz):∀ {xs:List α} {k:Nat} {v:α},xs[k]?=some v→∀ j u,(c v)[j]?=some u→(xs.flatMap c)[k * sz+j]?=some u
 | [],k,v,h,j,u,hu=>by cases h
 | x::xs,0,v,h,j,u,hu=>by
  simp only [List.getElem?_cons_zero,Option.some.injEq] at h;subst h
  rw [List.flatMap_cons,Nat.zero_mul,Nat.zero_add,List.getElem?_append_left (List.getElem?_eq_some_iff.1 hu).1];exact hu
 | x::xs,k+1,v,h,j,u,hu=>by
  simp only [List.getElem?_cons_succ] at h
  have:=B4b a h j u hu
  rw [List.flatMap_cons,List.getElem?_append_right (by rw [a,Nat.succ_mul];omega),a,show (k+1) * sz+j - sz=k * sz+j by rw [Nat.succ_mul];omega];exact this
theorem A7i.sub {α:Type} {c:α→List Value} {sz:Nat} (i:∀ x,(c x).length=sz) {xs:List α} {h:Hp} {a:Addr} (e:A7i h a (xs.flatMap c)) {k:Nat} {v:α} (d:xs[k]?=some v):A7i h (a.add (k * sz)) (c v):=by
 obtain ⟨b,o,l⟩:=a
 obtain g | ⟨h0,cc,T,fr,h1,h2⟩:=e
 ·exact .inl (List.flatMap_eq_nil_iff.1 g v (List.mem_of_getElem? d))
 simp only at h0 h1 h2
 subst h0
 rw [A1h]
 exact .inr ⟨rfl,cc,T,fr,h1,fun j u f=>by rw [Nat.add_assoc];exact h2 _ _ (B4b i d j u f)⟩
structure SlTy (P:Program) (T e sz:Nat):Prop where
 ty:P.underlying T=some (.slice e)
 size:(P.info? e).map (·.size)=some sz
theorem SlTy.run {T e sz:Nat} (h:SlTy P T e sz) (w:World):(sizeOf e).run P w=.ok sz w:=by
 obtain ⟨i,b,a⟩:=Option.map_eq_some_iff.1 h.size
 rw [A5s b,a]
theorem F0i {T e sz:Nat} (b:SlTy P T e sz) {a:Addr} {len cap k:Nat} (c:k<len) (w:World):(Instr.indexAt T (.slice (some a) len cap) (.int .i64 k)).run P w=.ok (.pointer (some (a.add (k * sz)))) w:=by
 have d:(0:Int)≤k∧(k:Int)<len:=by omega
 simp [Instr.indexAt,asIntOf,run_underlying b.ty,b.run,d,Nat.not_le.2 c]
theorem E1h {α:Type} {c:α→List Value} {q:Option Addr} {xs:List α} {p:Hp} (h:(sl c q xs).p p) {k:Nat} (b:k<xs.length):∃ a,q=some a:=by
 cases q with
 | none=>simp [sl] at h;subst h;simp at b
 | some a=>exact ⟨a,rfl⟩
theorem E6x {o:Oper} {T e sz:Nat} {x y:Operand} {a:Addr} {b cap:Nat} {m:Int} (j:SlTy P T e sz) (d:o.op=.indexAddr T x y)
  (g:ev E x=some (.slice (some a) b cap)) (h:ev E y=some (.int .i64 m)) (k:Nat) (i:m=k) (f:k<b):I6 P X o E L Φ (.pointer (some (a.add (k * sz)))) :=
 .of_run fun l w c _=>by
  subst i
  simp [execOp,d,C3 c g,C3 c h,F0i j f]
theorem L9 {c:Array Oper} {i m:Nat} {α:Type} {f:α→List Value} {q:Option Addr} {xs:List α} (j:Nat) (hΦ:Φ[j]?=some (sl f q xs)) (k:0<xs.length) (h:∀ a,q=some a→JI P n X c i m K Q E L Φ):JI P n X c i m K Q E L Φ:=fun a w d=>by
 obtain ⟨p,g⟩:=d.world
 obtain ⟨b,e⟩:=E1h (g.facts _ (List.mem_of_getElem? hΦ)) k
 exact h b e a w d
theorem E9 {o:Oper} {T e sz len:Nat} {x y:Operand} {cs us:List Value} {m:Int} {v:Value} (n:P.underlying T=some (.array len e)) {agg:Bool} (c:Ty P e sz agg) (g:o.op=.index T x y)
  (h:ev E x=some (.agg cs.toArray)) (i:ev E y=some (.int .i64 m)) (k:Nat) (j:m=k) (q:k<len) (d:(cs.drop (k * sz)).take sz=us) (a:(if agg then some (.agg us.toArray) else us[0]?)=some v) (p:Nat.blt 0 sz=true):I6 P X o E L Φ v :=
 .of_run fun r w f _=>by
  subst j
  have l:(0:Int)≤k∧(k:Int)<len:=by omega
  have b:0<sz:=by simpa [Nat.blt_eq] using p
  simp only [execOp,g,C3 f h,C3 f i,Instr.index,asIntOf,Sem.run_bind,Sem.run_pure,Result.andThen_ok,run_underlying n,l,and_self,if_true,Int.toNat_natCast,c.size,part,c.agg]
  cases agg with
  | true =>
   simp only [if_true,Option.some.injEq] at a
   subst a
   simp [c.size]
   exact d
  | false =>
   simp only [Bool.false_eq_true,if_false] at a
   have:cs.toArray[k * sz]?=some v:=by
    rw [← a,← d,List.getElem?_take,if_pos b,List.getElem?_drop]
    simp
   simp only [Bool.false_eq_true,if_false,this,Sem.run_pure,Result.andThen_ok]
structure EqT (P:Program) (T:Nat) {α:Type} [DecidableEq α] (c:α→List Value):Prop where
 run:∀ (x y:α) (w:World),(Op.equal T (.agg (c x).toArray) (.agg (c y).toArray)).run P w=.ok (decide (x=y)) w
 guard:P.eqGuardType P.depth T=false
theorem C0c {o:Oper} {T U:TypeId} {x y:Operand} {α:Type} [DecidableEq α] {c:α→List Value} {a b:α} (d:EqT P T c) (g:o.op=.binOp .eql T x y U) (f:ev E x=some (.agg (c a).toArray)) (h:ev E y=some (.agg (c b).toArray)):I6 P X o E L Φ (.bool (decide (a=b))) :=
 .of_run fun i w e _=>by simp [execOp,g,C3 e f,C3 e h,eqGuard,d.guard,binOp,d.run]
theorem X1 {o:Oper} {T U:TypeId} {x y:Operand} {α:Type} [DecidableEq α] {c:α→List Value} {a b:α} (d:EqT P T c) (g:o.op=.binOp .neq T x y U) (f:ev E x=some (.agg (c a).toArray)) (h:ev E y=some (.agg (c b).toArray)):I6 P X o E L Φ (.bool (!decide (a=b))) :=
 .of_run fun i w e _=>by simp [execOp,g,C3 e f,C3 e h,eqGuard,d.guard,binOp,d.run]
end
def B7a (P:Program) (T:TypeId):Bool:=match P.underlying T with
 | some (.struct _) | some (.array _ _)=>true
 | _=>false
def vOf (P:Program) (T:TypeId) (us:List Value):Value:=if B7a P T then .agg us.toArray else us.headD undef
def E6w (P:Program) (r:TypeId→List Value→List Value→Bool):List Field→Nat→List Value→List Value→Bool
 | [],_,us,vs=>us.isEmpty&&vs.isEmpty
 | f :: fs, off, us, vs => f.name != "_" && f.offset == off && r f.type (us.take (P.cellsOf f.type)) (vs.take (P.cellsOf f.type)) && E6w P r fs (off + P.cellsOf f.type) (us.drop (P.cellsOf f.type)) (vs.drop (P.cellsOf f.type))
def E4f (P:Program) (r:TypeId→List Value→List Value→Bool) (e:TypeId):Nat→List Value→List Value→Bool
 | 0,us,vs=>us.isEmpty&&vs.isEmpty
 | n+1,us,vs=>r e (us.take (P.cellsOf e)) (vs.take (P.cellsOf e))&&E4f P r e n (us.drop (P.cellsOf e)) (vs.drop (P.cellsOf e))
def wk (P:Program):Nat→TypeId→List Value→List Value→Bool
 | 0,_,_,_=>false
 | d+1,T,us,vs=>(P.info? T).isSome&&us.length == P.cellsOf T&&vs.length == P.cellsOf T&&match P.underlying T with
  | some .bool=>match us,vs with
   | [.bool _],[.bool _]=>true
   | _,_=>false
  | some (.int k)=>match us,vs with
   | [.int a _],[.int b _]=>decide (a=k)&&decide (b=k)
   | _,_=>false
  | some .string=>match us,vs with
   | [.string _],[.string _]=>true
   | _,_=>false
  | some (.struct fs)=>!P.stoodInHeld T&&E6w P (wk P d) fs.toList 0 us vs
  | some (.array n e)=>n != 0&&E4f P (wk P d) e n us vs
  | _=>false
section
variable {P:Program}
theorem D5h {T:TypeId} {i:TypeInfo} (h:P.info? T=some i):P.cellsOf T=i.size:=by simp [Program.cellsOf,h]
theorem B7r {T:TypeId} (b:(P.info? T).isSome=true) {d:TypeDesc} (c:P.underlying T=some d) {xs:Array Value} {off:Nat} {us:List Value} (e:(xs.toList.drop off).take (P.cellsOf T)=us) (f:B7a P T=false→us≠[]) (w:World) :
  (part T xs off).run P w=.ok (vOf P T us) w:=by
 obtain ⟨i,b⟩:=Option.isSome_iff_exists.1 b
 have a:(isAgg T).run P w=.ok (B7a P T) w:=by
  unfold isAgg B7a
  rw [Sem.run_bind,run_underlying c,c]
  cases d<;>rfl
 cases hr:B7a P T with
 | true =>
  have:xs.extract off (off+i.size)=us.toArray:=by
   rw [← e,D5h b]
   apply Array.ext'
   simp [List.extract_eq_take_drop]
  simp [part,a,hr,A5s b,vOf,this]
 | false =>
  have g:xs[off]?=some (us.headD undef):=by
   cases us with
   | nil=>exact absurd rfl (f hr)
   | cons u us =>
    have:=congrArg (·[0]?) e
    simp only [List.getElem?_cons_zero,List.getElem?_take,List.getElem?_drop,Nat.add_zero] at this
    split at this
    ·simpa using this
    ·cases this
  simp [part,a,hr,vOf,g]
theorem E1g:∀ (d:Nat) (k:Nat) (T:TypeId) (us l:List Value) (w:World),wk P d T us l=true→∃ b:Bool,(Op.equalIn (k+d) T (vOf P T us) (vOf P T l)).run P w=.ok b w∧(b=true ↔ us=l)
 | 0,_,_,_,_,_,h=>by simp [wk] at h
 | d+1,k,T,us,l,w,h=>by
  have ih:=fun T us l h=>E1g d k T us l w h
  unfold wk at h
  simp only [Bool.and_eq_true,beq_iff_eq] at h
  obtain ⟨⟨⟨hi,a4⟩,a3⟩,h⟩:=h
  have a2:∀ (T:TypeId) (us l:List Value),wk P d T us l=true→(P.info? T).isSome=true∧us.length=P.cellsOf T∧l.length=P.cellsOf T∧(∃ dd,P.underlying T=some dd)∧(B7a P T=false→us≠[]∧l≠[]):=by
   intro T us l h
   cases d with
   | zero=>simp [wk] at h
   | succ d =>
    unfold wk at h
    simp only [Bool.and_eq_true,beq_iff_eq] at h
    obtain ⟨⟨⟨hi,a4⟩,a3⟩,h⟩:=h
    refine ⟨hi,a4,a3,?_,?_⟩
    ·split at h<;>first|exact ⟨_,‹_›⟩|cases h
    ·intro hr
     split at h
     ·split at h
      ·simp
      ·cases h
     ·split at h
      ·simp
      ·cases h
     ·split at h
      ·simp
      ·cases h
     ·rename_i n;simp [B7a,n] at hr
     ·rename_i n;simp [B7a,n] at hr
     ·cases h
  split at h
  ·rename_i n
   have hr:B7a P T=false:=by simp [B7a,n]
   split at h
   ·rename_i a b
    exact ⟨a == b,by simp [vOf,hr,← Nat.add_assoc,run_equalIn_bool' w _ T a b n],by simp⟩
   ·cases h
  ·rename_i q n
   have hr:B7a P T=false:=by simp [B7a,n]
   split at h
   ·rename_i j a j' b
    simp only [Bool.and_eq_true,decide_eq_true_eq] at h
    obtain ⟨rfl,rfl⟩:=h
    exact ⟨a == b,by simp [vOf,hr,← Nat.add_assoc,run_equalIn_int w _ T _ _ a b n],by simp⟩
   ·cases h
  ·rename_i n
   have hr:B7a P T=false:=by simp [B7a,n]
   split at h
   ·rename_i a b
    refine ⟨a.toList == b.toList,by simp [vOf,hr,← Nat.add_assoc,run_equalIn_string w _ T a b n],?_⟩
    rw [beq_iff_eq,ByteArray.toList_eq,ByteArray.toList_eq]
    constructor
    ·intro e
     obtain ⟨⟨x⟩⟩:=a
     obtain ⟨⟨y⟩⟩:=b
     simp only at e
     rw [e]
    ·intro e
     simp only [List.cons.injEq,Value.string.injEq,and_true] at e
     rw [e]
   ·cases h
  ·rename_i fs n
   have hr:B7a P T=true:=by simp [B7a,n]
   simp only [Bool.and_eq_true,Bool.not_eq_true'] at h
   have hf:P.fieldsOf T=fs:=by simp [Program.fieldsOf,n]
   simp only [vOf,hr,if_true,Nat.add_succ]
   rw [run_equalIn_struct w (k+d) T us.toArray l.toArray (by rw [hf];exact n) h.1,hf]
   have p:∀ (fs:List Field) (off:Nat) (c g:List Value),us.drop off=c→l.drop off=g→E6w P (wk P d) fs off c g=true →
     ∃ b:Bool,(Op.eqFields (k+d) us.toArray l.toArray fs).run P w=.ok b w∧(b=true ↔ c=g):=by
    intro fs
    induction fs with
    | nil =>
     intro off c g _ _ h
     simp only [E6w,Bool.and_eq_true,List.isEmpty_iff] at h
     exact ⟨true,by simp [Op.eqFields],by simp [h.1,h.2]⟩
    | cons f fs ihf =>
     intro off c g h1 h2 h
     simp only [E6w,Bool.and_eq_true,bne_iff_ne,beq_iff_eq] at h
     obtain ⟨⟨⟨ac,z⟩,hk⟩,o⟩:=h
     obtain ⟨u,a9,a6,⟨dd,s⟩,r⟩:=a2 _ _ _ hk
     obtain ⟨b,hb,t⟩:=ih _ _ _ hk
     obtain ⟨b',a0,v⟩:=ihf (off+P.cellsOf f.type) _ _ (by rw [← h1,List.drop_drop]) (by rw [← h2,List.drop_drop]) o
     have p1:=B7r (P:=P) u s (xs:=us.toArray) (off:=f.offset) (us:=c.take (P.cellsOf f.type)) (by rw [z,← h1]) (fun e=>(r e).1) w
     have p2:=B7r (P:=P) u s (xs:=l.toArray) (off:=f.offset) (us:=g.take (P.cellsOf f.type)) (by rw [z,← h2]) (fun e=>(r e).2) w
     have split:c=g ↔ c.take (P.cellsOf f.type)=g.take (P.cellsOf f.type)∧c.drop (P.cellsOf f.type)=g.drop (P.cellsOf f.type):=by
      constructor
      ·intro e;rw [e];exact ⟨rfl,rfl⟩
      ·intro ⟨e1,e2⟩;rw [← List.take_append_drop (P.cellsOf f.type) c,e1,e2,List.take_append_drop]
     simp only [Op.eqFields,ne_eq,ac,not_false_eq_true,if_true,Sem.run_bind,p1,p2,Result.andThen_ok,hb]
     cases b with
     | false=>exact ⟨false,by simp,by rw [split,← t];simp⟩
     | true=>exact ⟨b',by simpa using a0,by rw [split,← t,v];simp⟩
   exact p fs.toList 0 us l rfl rfl h.2
  ·rename_i m e n
   have hr:B7a P T=true:=by simp [B7a,n]
   obtain ⟨i0,ah⟩:=Option.isSome_iff_exists.1 hi
   simp only [vOf,hr,if_true,Nat.add_succ]
   cases m with
   | zero=>simp at h
   | succ m =>
    simp only [Bool.and_eq_true] at h
    replace h:=h.2
    have a1:∃ i,P.info? e=some i:=by
     have:wk P d e (us.take (P.cellsOf e)) (l.take (P.cellsOf e))=true:=by simp only [E4f,Bool.and_eq_true] at h;exact h.1
     exact Option.isSome_iff_exists.1 (a2 _ _ _ this).1
    obtain ⟨ie,a1⟩:=a1
    rw [run_equalIn_array w (k+d) us.toArray l.toArray n a1,List.range_eq_range']
    have p:∀ (m:Nat) (j:Nat) (c g:List Value),us.drop (j * P.cellsOf e)=c→l.drop (j * P.cellsOf e)=g→E4f P (wk P d) e m c g=true →
      ∃ b:Bool,(Op.eqItems (k+d) e (P.cellsOf e) us.toArray l.toArray (List.range' j m)).run P w=.ok b w∧(b=true ↔ c=g):=by
     intro m
     induction m with
     | zero =>
      intro j c g _ _ h
      simp only [E4f,Bool.and_eq_true,List.isEmpty_iff] at h
      exact ⟨true,by simp [Op.eqItems],by simp [h.1,h.2]⟩
     | succ m ihm =>
      intro j c g h1 h2 h
      simp only [E4f,Bool.and_eq_true] at h
      obtain ⟨hk,o⟩:=h
      obtain ⟨u,a9,a6,⟨dd,s⟩,r⟩:=a2 _ _ _ hk
      obtain ⟨b,hb,t⟩:=ih _ _ _ hk
      obtain ⟨b',a0,v⟩:=ihm (j+1) _ _ (by rw [← h1,List.drop_drop,Nat.succ_mul]) (by rw [← h2,List.drop_drop,Nat.succ_mul]) o
      have p1:=B7r (P:=P) u s (xs:=us.toArray) (off:=j * P.cellsOf e) (us:=c.take (P.cellsOf e)) (by rw [← h1]) (fun e=>(r e).1) w
      have p2:=B7r (P:=P) u s (xs:=l.toArray) (off:=j * P.cellsOf e) (us:=g.take (P.cellsOf e)) (by rw [← h2]) (fun e=>(r e).2) w
      have split:c=g ↔ c.take (P.cellsOf e)=g.take (P.cellsOf e)∧c.drop (P.cellsOf e)=g.drop (P.cellsOf e):=by
       constructor
       ·intro e;rw [e];exact ⟨rfl,rfl⟩
       ·intro ⟨e1,e2⟩;rw [← List.take_append_drop (P.cellsOf e) c,e1,e2,List.take_append_drop]
      rw [List.range'_succ]
      simp only [Op.eqItems,Sem.run_bind,p1,p2,Result.andThen_ok,hb]
      cases b with
      | false=>exact ⟨false,by simp,by rw [split,← t];simp⟩
      | true=>exact ⟨b',by simpa using a0,by rw [split,← t,v];simp⟩
    exact p (m+1) 0 us l oom oom h
  ·cases h
theorem EqT.of {T:TypeId} {α:Type} [DecidableEq α] {c:α→List Value} (d:Nat) (h:Nat.ble d 10000=true) (hr:B7a P T=true) (i:P.eqGuardType P.depth T=false) (j:∀ x y,wk P d T (c x) (c y)=true) (k:∀ x y,c x=c y→x=y):EqT P T c:=by
 refine ⟨fun x y w=>?_,i⟩
 obtain ⟨b,f,a⟩:=E1g d (10000 - d) T (c x) (c y) w (j x y)
 have g:=Nat.le_of_ble_eq_true h
 rw [Nat.sub_add_cancel g] at f
 simp only [vOf,hr,if_true] at f
 unfold Op.equal Op.maxDepth
 rw [f]
 congr 1
 by_cases e:x=y
 ·subst e;simp [a.2 rfl]
 ·cases b with
  | false=>simp [e]
  | true=>exact absurd (k _ _ (a.1 rfl)) e
end
abbrev ag (cs:List Value):Value:=.agg cs.toArray
abbrev bs (l:List UInt8):ByteArray:=⟨l.toArray⟩
structure Slc where
 q:Option Addr
 n:Nat
 k:Nat
deriving DecidableEq
section
variable {P:Program} {n:Nat} {X:Cx} {K:Act→World→Prop} {Q:Exit→Act→World→Prop} {E E':bX} {L L':Own} {Φ Φ':List Pers}
theorem C2o {o:Oper} {T e b sz:Nat} {agg:Bool} {x:Operand} {a:Addr} (g:P.underlying T=some (.array b e)) (f:Ty P e sz agg) (h:o.op=.slice T x none none none) (c:ev E x=some (.pointer (some a))):I6 P X o E L Φ (.slice (some a) b b) :=
 .of_run fun i w d _=>by
  by_cases h0:b=0
  ·subst h0
   simp [execOp,h,C3 d c,Instr.sliceAt,run_underlying g,Instr.sureAddr,Instr.sliceBounds,f.size]
  ·simp [execOp,h,C3 d c,Instr.sliceAt,run_underlying g,Instr.sureAddr,Instr.sliceBounds,f.size,Addr.add]
theorem C1 {o:Oper} {T e sz d:Nat} {ps:Array (Nat×Operand)} {vs:List (Nat×Value)} {α:Type} {c:α→List Value} {xs:List α} (u:SlTy P T e sz) (h:Nat.blt 0 (d * sz)=true) (s:o.op=.buildSlice T d ps) (g:B3z E ps.toList=some vs)
  (f:(if d * sz > 2 ^ 24 then none else match (P.info? e).bind (·.zero) with
   | some z=>Instr.fill (fun i=>some (i * sz,sz)) ((Array.range (d * sz)).map (z.cells[· % z.cells.size]!)) vs
   | none=>none)=some (xs.flatMap c).toArray) :
  Tri P n X o E L Φ Nat (fun b=>.slice (some ⟨b,0,none⟩) d d) (fun _=>L) (fun b=>sl c (some ⟨b,0,none⟩) xs::Φ):=by
 intro a w K Q t y
 have hm:(ps.map fun (x:Nat×Operand)=>(x.1,a.eval x.2)).toList=vs:=by simpa using B2f t.has g
 split at f
 ·cases f
 ·rename_i l
  split at f
  ·rename_i z hz
   obtain ⟨i,hi,k⟩:=Option.bind_eq_some_iff.1 hz
   have m:(zeroValue e).run P w=.ok z w:=by simp [zeroValue,A8p hi,k]
   have hr:(execOp a.eval o).run P w=.ok (.value (.slice (some ⟨w.heap.size,0,none⟩) d d)) (w.alloc (.cells (xs.flatMap c).toArray e (0,0))):=by
    have h0:¬ d * sz=0:=by
     have:0<d * sz:=by simpa [Nat.blt_eq] using h
     omega
    simp only [execOp,s,Instr.buildSlice,Sem.run_bind,run_underlying u.ty,Result.andThen_ok,u.run,l,h0,Sem.run_ite,if_false,m,Sem.run_pure,hm,f,newRow,run_newObj]
    rfl
   refine A8j (by rw [s];rfl) ?_
   unfold Oper.wp
   rw [hr]
   refine y w.heap.size _ ?_
   have:=(t.world.alloc (.cells (xs.flatMap c).toArray e (0,0))).freeze (i:=0) rfl
   refine this.foll fun p g q r=>?_
   rcases List.mem_cons.1 r with rfl | r
   ·have hb:p w.heap.size=some (.cells (xs.flatMap c).toArray e (0,0)):=g (blk w.heap.size (.cells (xs.flatMap c).toArray e (0,0))) oom
    exact .inr ⟨rfl,_,_,_,hb,fun j v hj=>by simpa using hj⟩
   ·exact g q (by simp [r])
  ·cases f
end
section
variable {P:Program} {n:Nat} {X:Cx} {K:Act→World→Prop} {Q:Exit→Act→World→Prop} {E E':bX} {L L':Own} {Φ Φ':List Pers}
def S1 (Φ:List Pers) (q:Pers):Prop:=∀ p:Hp,(∀ q ∈ Φ,q.p p)→q.p p
theorem B8 {q:Pers} (j:Nat) (h:Φ[j]?=some q):S1 Φ q:=fun _ a=>a q (List.mem_of_getElem? h)
theorem F4q {α:Type} {c:α→List Value} {sz:Nat} {a:Addr} {xs:List α} (e:∀ x,(c x).length=sz) (j:Nat) (h:Φ[j]?=some (sl c (some a) xs)) {k:Nat} {v:α} (b:xs[k]?=some v):S1 Φ (at_ (a.add (k * sz)) (c v)) :=
 fun p d=>A7i.sub e (show A7i p a (xs.flatMap c) from d _ (List.mem_of_getElem? h)) b
theorem B6q {a:Addr} {us ws:List Value} (h:S1 Φ (at_ a us)) (off n:Nat) (e:(us.drop off).take n=ws):S1 Φ (at_ (a.add off) ws):=fun p f=>by
 obtain ⟨b,o,i⟩:=a
 obtain g | ⟨h0,c,T,fr,h1,h2⟩:=h p f
 ·exact .inl (by rw [← e,g];simp)
 simp only at h0 h1 h2
 subst h0
 rw [A1h]
 refine .inr ⟨rfl,c,T,fr,h1,fun j v d=>?_⟩
 have:=h2 (off+j) v (by
  rw [← e,List.getElem?_take] at d
  split at d
  ·rwa [List.getElem?_drop] at d
  ·cases d)
 simpa [Nat.add_assoc] using this
theorem A2w {a:Addr} {us ws:List Value} (h:S1 Φ (at_ a us)) (n:Nat) (b:us.take n=ws):S1 Φ (at_ a ws):=by
 have:=B6q h 0 n (ws:=ws) (by simpa using b)
 simpa [Addr.add] using this
theorem K5 {o:Oper} {T sz:Nat} {x:Operand} {a:Addr} {us:List Value} (f:Ty P T sz true) (c:o.op=.load T x) (d:ev E x=some (.pointer (some a))) (hΦ:S1 Φ (at_ a us)) (e:us.length=sz) :
  I6 P X o E L Φ (.agg us.toArray):=.of_run fun l w k ⟨p,b⟩=>by
 have g:A7i p a us:=hΦ p b.facts
 simp [execOp,c,C3 k d,B7d f e fun j v i=>g.cell b.sub i]
theorem F2 {o:Oper} {T:Nat} {x:Operand} {a:Addr} {v:Value} {us:List Value} (d:Ty P T 1 false) (e:o.op=.load T x) (f:ev E x=some (.pointer (some a))) (hΦ:S1 Φ (at_ a us)) (c:us[0]?=some v) :
  I6 P X o E L Φ v:=.of_run fun k w i ⟨p,b⟩=>by
 have g:A7i p a us:=hΦ p b.facts
 simp [execOp,e,C3 i f,B7p d (g.cell (j:=0) b.sub c)]
theorem A2o {o:Oper} {T e sz len b off:Nat} {agg:Bool} {x y:Operand} {m:Int} (n:P.underlying T=some (.array len e)) (l:Ty P e sz agg) (d:o.op=.indexAddr T x y)
  (g:ev E x=some (.pointer (some ⟨b,off,none⟩))) (h:ev E y=some (.int .i64 m)) (k:Nat) (i:m=k) (f:Nat.blt k len=true):I6 P X o E L Φ (.pointer (some ⟨b,off+k * sz,none⟩)) :=
 .of_run fun p w c _=>by
  subst i
  have a:k<len:=by simpa [Nat.blt_eq] using f
  have j:(0:Int)≤k∧(k:Int)<len:=by omega
  simp [execOp,d,C3 c g,C3 c h,Instr.indexAt,asIntOf,run_underlying n,Instr.sureAddr,l.size,j,Nat.not_le.2 a,A1h]
theorem Z6 {c:Code} (k:Nat) (h:JQ n X (Code.roundsIn (FW X.rho) 0 P c Q k) E L Φ):J P n X (.loop c) Q E L Φ:=fun a w b=>wpIn_loop_rounds k (h a w b)
theorem D9 {c:Code} {k:Nat} (h:J P n X c (Exit.then (Code.roundsIn (FW X.rho) 0 P c Q k) Q) E L Φ):JQ n X (Code.roundsIn (FW X.rho) 0 P c Q (k+1)) E L Φ:=fun a w b=>by
 rw [roundsIn_succ];exact h a w b
theorem A9.con1 {q:Pers} (h:S1 Φ q) (k:A9 Φ Φ'):A9 Φ (q::Φ'):=A9.cons h k
end
abbrev iv (n:Int):Value:=.int .i64 n
@[reducible] def aE (n:Nat):Value := .func (.func n) #[] #[]
abbrev bv (b:Bool):Value:=.bool b
abbrev pt (b o:Nat):Value:=.pointer (some ⟨b,o,none⟩)
abbrev pa (a:Addr):Value:=.pointer (some a)
abbrev sv (l:List UInt8):Value:=.string (bs l)
section
variable {P:Program} {n:Nat} {X:Cx} {K:Act→World→Prop} {Q:Exit→Act→World→Prop} {E E':bX} {L L':Own} {Φ Φ':List Pers}
def B6t (E:bX) (t:Nat):Bool:=match E.lookup t with | some _=>true | none=>false
def C9x (b:Array Oper) (E a:bX):Nat→Nat→Bool
 | 0,_=>true
 | k+1,i=>(match (b[i]?).bind (·.dst) with
  | some d=>B6t a d||!B6t E d
  | none=>true)&&C9x b E a k (i+1)
theorem B5a (A B:bX) (t:Nat):(A++B).lookup t=match A.lookup t with | some v=>some v | none=>B.lookup t:=by
 induction A with
 | nil=>rfl
 | cons p A ih =>
  obtain ⟨u,v⟩:=p
  by_cases h:t=u
  ·subst h;simp [List.lookup]
  ·have:(t == u)=false:=by simpa using h
   simp only [List.cons_append,List.lookup,this];exact ih
theorem C6p {c:Array Oper} {b:bX} {t:Nat} {v:Value} (E0:bX) (g:E0.lookup t=some v) (j:b.lookup t=none):∀ (k i:Nat) {E R:bX},C9x c E0 b k i=true→A7b P n c k i E=some R→E.lookup t=some v→R.lookup t=some v
 | 0,i,E,R,_,h,he=>by simp [A7b] at h;subst h;exact he
 | k+1,i,E,R,hk,h,he=>by
  unfold A7b at h
  unfold C9x at hk
  simp only [Bool.and_eq_true] at hk
  split at h
  ·rename_i o l
   split at h
   ·rename_i E1 a
    refine C6p E0 g j k (i+1) hk.2 h ?_
    have f:o.dst≠some t:=by
     intro f
     have:=hk.1
     simp only [l,Option.bind_some,f,B6t,j,g] at this
     simp at this
    have put:∀ u,(bX.put E o.dst u).lookup t=some v:=by
     intro u
     cases hdst:o.dst with
     | none=>exact he
     | some d =>
      have:(t == d)=false:=by simp;intro e;exact f (by rw [hdst,e])
      simp only [bX.put,List.lookup,this];exact he
    unfold B2u at a
    split at a
    ·split at a
     ·simp only [Option.some.injEq] at a;subst a;exact put _
     ·cases a
    ·simp only [Option.some.injEq] at a;subst a;exact put _
    ·cases a
   ·cases h
  ·cases h
def A4d (P:Program) (n:Nat) (a:Array Oper) (k i:Nat) (E b:bX):Option bX:=if C9x a E b k i then E5w P n a k i E b else none
theorem D2j {c:Array Oper} {k i:Nat} {b:bX} (h:A4d P n c k i E b=some b):∃ R,A7b P n c k i E=some R∧∀ a,Has a R→Has a (b++E):=by
 unfold A4d at h
 split at h
 ·rename_i g
  unfold E5w at h
  split at h
  ·rename_i R hR
   refine ⟨R,hR,fun a f t v e=>?_⟩
   rw [B5a] at e
   split at e
   ·rename_i u d
    exact (f.weaken (S3 (C0b h))) t v (by rw [d];exact e)
   ·rename_i d
    exact f t v (C6p E e d k i g hR e)
  ·cases h
 ·cases h
theorem ip {c:Array Oper} {i:Nat} (k m:Nat) (b:bX) (h:A4d P n c k i E b=some b) (g:JI P n X c (i+k) m K Q (b++E) L Φ):JI P n X c i (k+m) K Q E L Φ:=by
 obtain ⟨R,hR,e⟩:=D2j h
 exact E7h k i hR fun a w d=>g a w ⟨d.size,d.defers,e a d.has,d.world⟩
theorem dp {c:Array Oper} {i:Nat} (k m:Nat) (b:bX) (h:A4d P n c k i E b=some b) (g:JD P n X c (i+k) m K (b++E) L Φ):JD P n X c i (k+m) K E L Φ:=by
 obtain ⟨R,hR,d⟩:=D2j h
 exact E5o k i hR fun a e f j=>g a e f (d a j)
def C3r (n:Nat) (a:Array Oper) (i:Nat) (E:bX):Option Oper :=
 match a[i]? with
 | some o=>if (A6r a o E == some true)&&X6 n o.dst then some o else none
 | none=>none
theorem L6 {a:Array Oper} {i:Nat} {o:Oper} (h:C3r n a i E=some o):a[i]?=some o∧A6r a o E=some true∧X6 n o.dst=true:=by
 unfold C3r at h
 split at h
 ·rename_i o' c
  split at h
  ·rename_i b
   simp only [Option.some.injEq] at h;subst h
   simp only [Bool.and_eq_true,beq_iff_eq] at b
   exact ⟨c,b.1,b.2⟩
  ·cases h
 ·cases h
theorem it {a:Array Oper} {i m:Nat} {o:Oper} {α:Type} {val:α→Value} {L':α→Own} {Φ':α→List Pers} (b:C3r n a i E=some o) (c:Tri P n X o E L Φ α val L' Φ')
  (h:∀ x,JI P n X a (i+1) m K Q (bX.put E o.dst (val x)) (L' x) (Φ' x)):JI P n X a i (m+1) K Q E L Φ:=C9a (L6 b).1 (L6 b).2.1 (L6 b).2.2 c h
theorem ix {a:Array Oper} {i m:Nat} {o:Oper} {v:Value} (b:C3r n a i E=some o) (c:I6 P X o E L Φ v)
  (h:JI P n X a (i+1) m K Q (bX.put E o.dst v) L Φ):JI P n X a i (m+1) K Q E L Φ:=D4n (L6 b).1 (L6 b).2.1 (L6 b).2.2 c.det h
theorem ixc {a:Array Oper} {i m:Nat} {o:Oper} {v:Value} (b:C3r n a i E=some o) (c:Det P X o E L Φ v)
  (h:JI P n X a (i+1) m K Q (bX.put E o.dst v) L Φ):JI P n X a i (m+1) K Q E L Φ:=D4n (L6 b).1 (L6 b).2.1 (L6 b).2.2 c h
theorem dd {a:Array Oper} {i m:Nat} {o:Oper} {v:Value} (b:C3r n a i E=some o) (c:I6 P X o E L Φ v)
  (h:JD P n X a (i+1) m K (bX.put E o.dst v) L Φ):JD P n X a i (m+1) K E L Φ:=D4e (L6 b).1 (L6 b).2.1 (L6 b).2.2 c.det h
theorem ddc {a:Array Oper} {i m:Nat} {o:Oper} {v:Value} (b:C3r n a i E=some o) (c:Det P X o E L Φ v)
  (h:JD P n X a (i+1) m K (bX.put E o.dst v) L Φ):JD P n X a i (m+1) K E L Φ:=D4e (L6 b).1 (L6 b).2.1 (L6 b).2.2 c h
theorem F3s {b:Array Oper} {i:Nat} (k m t p:Nat) {g:Bool} (x:Bool) (j:E.lookup t=some (.bool g)) (l:A4d P n b k i ((t,.bool false)::E) [(p,.bool false)]=some [(p,.bool false)])
  (o:g=true→JI P n X b i k (fun a w=>St n X ((p,.bool x)::E) L Φ a w) Q ((t,.bool true)::E) L Φ) (h:JI P n X b (i+k) m K Q ((p,.bool (g&&x))::E) L Φ):JI P n X b i (k+m) K Q E L Φ:=by
 refine E7w k m ((p,.bool (g&&x))::E) L Φ (D6y t g j (fun e=>?_) (fun e=>?_)) h
 ·subst e;exact o rfl
 ·subst e
  refine ip k 0 _ l (A3 fun a w d=>⟨d.size,d.defers,?_,d.world⟩)
  intro u v c
  by_cases hup:u=p
  ·subst hup;simp [List.lookup] at c;subst c;exact d.has _ _ (by simp [List.lookup])
  ·have f:(u == p)=false:=by simpa using hup
   simp only [List.lookup,f] at c
   by_cases hut:u=t
   ·subst hut;rw [j] at c;simp at c;subst c;exact d.has _ _ (by simp [List.lookup,f])
   ·have q:(u == t)=false:=by simpa using hut
    exact d.has _ _ (by simp [List.lookup,f,q,c])
theorem ior {b:Array Oper} {i:Nat} (k m t p:Nat) {g:Bool} (x:Bool) (j:E.lookup t=some (.bool g)) (l:A4d P n b k i ((t,.bool true)::E) [(p,.bool true)]=some [(p,.bool true)])
  (o:g=false→JI P n X b i k (fun a w=>St n X ((p,.bool x)::E) L Φ a w) Q ((t,.bool false)::E) L Φ) (h:JI P n X b (i+k) m K Q ((p,.bool (g||x))::E) L Φ):JI P n X b i (k+m) K Q E L Φ:=by
 refine E7w k m ((p,.bool (g||x))::E) L Φ (D6y t g j (fun e=>?_) (fun e=>?_)) h
 ·subst e
  refine ip k 0 _ l (A3 fun a w d=>⟨d.size,d.defers,?_,d.world⟩)
  intro u v c
  by_cases hup:u=p
  ·subst hup;simp [List.lookup] at c;subst c;exact d.has _ _ (by simp [List.lookup])
  ·have f:(u == p)=false:=by simpa using hup
   simp only [List.lookup,f] at c
   by_cases hut:u=t
   ·subst hut;rw [j] at c;simp at c;subst c;exact d.has _ _ (by simp [List.lookup,f])
   ·have q:(u == t)=false:=by simpa using hut
    exact d.has _ _ (by simp [List.lookup,f,q,c])
 ·subst e;exact o rfl
theorem F4m {b:Array Oper} {i:Nat} (k m t p:Nat) {g:Bool} (x:Bool) (j:E.lookup t=some (.bool g)) (l:A4d P n b k i ((t,.bool false)::E) [(p,.bool false)]=some [(p,.bool false)])
  (o:g=true→JD P n X b i k (fun a _=>a.tmps.size=n∧a.defers=X.marks∧Has a ((p,.bool x)::E)) ((t,.bool true)::E) L Φ) (h:JD P n X b (i+k) m K ((p,.bool (g&&x))::E) L Φ):JD P n X b i (k+m) K E L Φ:=by
 refine E7b k m ((p,.bool (g&&x))::E) (D7i t g j (fun e=>?_) (fun e=>?_)) h
 ·subst e;exact o rfl
 ·subst e
  refine dp k 0 _ l (C6f fun a w d=>⟨d.size,d.defers,?_⟩)
  intro u v c
  by_cases hup:u=p
  ·subst hup;simp [List.lookup] at c;subst c;exact d.has _ _ (by simp [List.lookup])
  ·have f:(u == p)=false:=by simpa using hup
   simp only [List.lookup,f] at c
   by_cases hut:u=t
   ·subst hut;rw [j] at c;simp at c;subst c;exact d.has _ _ (by simp [List.lookup,f])
   ·have q:(u == t)=false:=by simpa using hut
    exact d.has _ _ (by simp [List.lookup,f,q,c])
theorem dor {b:Array Oper} {i:Nat} (k m t p:Nat) {g:Bool} (x:Bool) (j:E.lookup t=some (.bool g)) (l:A4d P n b k i ((t,.bool true)::E) [(p,.bool true)]=some [(p,.bool true)])
  (o:g=false→JD P n X b i k (fun a _=>a.tmps.size=n∧a.defers=X.marks∧Has a ((p,.bool x)::E)) ((t,.bool false)::E) L Φ) (h:JD P n X b (i+k) m K ((p,.bool (g||x))::E) L Φ):JD P n X b i (k+m) K E L Φ:=by
 refine E7b k m ((p,.bool (g||x))::E) (D7i t g j (fun e=>?_) (fun e=>?_)) h
 ·subst e
  refine dp k 0 _ l (C6f fun a w d=>⟨d.size,d.defers,?_⟩)
  intro u v c
  by_cases hup:u=p
  ·subst hup;simp [List.lookup] at c;subst c;exact d.has _ _ (by simp [List.lookup])
  ·have f:(u == p)=false:=by simpa using hup
   simp only [List.lookup,f] at c
   by_cases hut:u=t
   ·subst hut;rw [j] at c;simp at c;subst c;exact d.has _ _ (by simp [List.lookup,f])
   ·have q:(u == t)=false:=by simpa using hut
    exact d.has _ _ (by simp [List.lookup,f,q,c])
 ·subst e;exact o rfl
def C6v (E:bX) (t p:Nat):bX→Bool
 | []=>true
 | (u,_)::rest=>(u == t||u == p||!B6t E u)&&C6v E t p rest
theorem E2f {R:bX} (c t p:Nat) {v:Value} {g b:Bool} (r:g=b) (hR:R.drop c=E) (l:C6v E t p (R.take c)=true) (o:E.lookup t=some (.bool g)) (i:R.lookup t=some (.bool b)) (n:R.lookup p=some v) {a:Act} (k:Has a R):Has a ((p,v)::E):=by
 intro u x d
 by_cases hup:u=p
 ·subst hup;simp [List.lookup] at d;subst d;exact k _ _ n
 ·have m:(u == p)=false:=by simpa using hup
  simp only [List.lookup,m] at d
  by_cases hut:u=t
  ·subst hut;rw [o] at d;simp at d;subst d;subst r;exact k _ _ i
  ·refine k _ _ ?_
   have j:∀ A:bX,C6v E t p A=true→(A++E).lookup u=some x:=by
    intro A
    induction A with
    | nil=>intro _;exact d
    | cons q A ih =>
     obtain ⟨u',s⟩:=q
     intro h
     simp only [C6v,Bool.and_eq_true,Bool.or_eq_true,beq_iff_eq,Bool.not_eq_true'] at h
     have f:(u == u')=false:=by
      rcases h.1 with (h1 | h1) | h1
      ·subst h1;simpa using hut
      ·subst h1;simpa using hup
      ·by_cases e:u=u'
       ·subst e;simp [B6t,d] at h1
       ·simpa using e
     simp only [List.cons_append,List.lookup,f]
     exact ih h.2
   rw [← List.take_append_drop c R,hR]
   exact j _ l
theorem O6 {R:bX} (c t p:Nat) {v:Value} {g b:Bool} (j:g=b) (hΦ:A9 Φ' Φ) (l:List.Sublist L L') (hR:R.drop c=E) (f:C6v E t p (R.take c)=true) (k:E.lookup t=some (.bool g)) (e:R.lookup t=some (.bool b)) (i:R.lookup p=some v):JQ n X (fun a w=>St n X ((p,v)::E) L Φ a w) R L' Φ' :=
 fun _ _ d=>⟨d.size,d.defers,E2f c t p j hR f k e i d.has,(d.world.sub l).foll hΦ⟩
theorem F5o {R:bX} (c t p:Nat) {v:Value} {g b:Bool} (i:g=b) (hR:R.drop c=E) (f:C6v E t p (R.take c)=true) (j:E.lookup t=some (.bool g)) (e:R.lookup t=some (.bool b)) (h:R.lookup p=some v):JQ n X (fun a _=>a.tmps.size=n∧a.defers=X.marks∧Has a ((p,v)::E)) R L Φ :=
 fun _ _ d=>⟨d.size,d.defers,E2f c t p i hR f j e h d.has⟩
theorem sr {id:Nat} {b:Array Oper} {y:Code} (m:Nat) (c:b.size=m) (h:JI P n X b 0 m (fun a w=>y.wpIn (FW X.rho) 0 P Q a w) (Exit.then (fun a w=>y.wpIn (FW X.rho) 0 P Q a w) Q) E L Φ):J P n X (.seq (.region id b false) y) Q E L Φ:=A5 (A0 m c h)
theorem sd {id:Nat} {b:Array Oper} {y:Code} (m:Nat) (d:P.follows .mixedOrders=true) (c:Region.lexB .any b=true) (e:b.size=m) (h:JD P n X b 0 m (fun a w=>y.wpIn (FW X.rho) 0 P Q a w) E L Φ):J P n X (.seq (.region id b true) y) Q E L Φ:=A5 (D9u m d c e h)
theorem ie {b:Array Oper} {i:Nat} {y:Code} (h:J P n X y Q E L Φ) {Q':Exit→Act→World→Prop}:JI P n X b i 0 (fun a w=>y.wpIn (FW X.rho) 0 P Q a w) Q' E L Φ:=A3 h
theorem de {b:Array Oper} {i:Nat} {y:Code} (h:J P n X y Q E L Φ):JD P n X b i 0 (fun a w=>y.wpIn (FW X.rho) 0 P Q a w) E L Φ:=C6f h
theorem nx {y:Code} (h:J P n X y Q E L Φ):JQ n X (fun a w=>y.wpIn (FW X.rho) 0 P Q a w) E L Φ:=h
end
section
variable {P:Program} {ops:Array Oper} {Q:Exit→Act→World→Prop} {S:World→Prop} {ρ:Option Nat}
def A2q (a:Array Oper):Bool:=a.all fun o=>!C4a o.op
theorem C9t (h:A2q ops=true) {i:Nat} {o:Oper} (a:ops[i]?=some o):C4a o.op=false:=by
 obtain ⟨c,b⟩:=Array.getElem?_eq_some_iff.1 a
 have:=(Array.all_eq_true.1 h) i c
 rw [b] at this;simpa using this
def AH (ρ:Option Nat) (P:Program) (b:Array Oper) (Q:Exit→Act→World→Prop) (S:Array Bool→World→Prop):Nat→Array Bool→Act→World→Prop
 | 0,listed,a,w=>Region.ready .any b listed=[]∧Q .normal a w
 | fuel+1,listed,a,w =>
  (Region.ready .any b listed=[]→Q .normal a w) ∧
  ∀ i ∈ Region.ready .any b listed,wpOpIn (FW ρ) 0 P b Q i (fun c w'=>S (listed.setIfInBounds i true) w'∧AH ρ P b Q S fuel (listed.setIfInBounds i true) c w') a w
theorem B7n {i:Nat} {K K':Act→World→Prop} {a:Act} {w:World} (h:∀ a w,K a w→K' a w) (b:wpOpIn (FW ρ) 0 P ops Q i K a w):wpOpIn (FW ρ) 0 P ops Q i K' a w:=by
 unfold wpOpIn at *
 split
 ·rename_i d;simp only [d] at b;exact h _ _ b
 ·rename_i o d
  simp only [d] at b
  split
  ·rename_i c;simp only [c,if_true] at b;exact ⟨b.1,C7b h (fun _ _ _ h=>h) (fun h=>h) b.2⟩
  ·rename_i c;simp only [c] at b;exact ⟨b.1,h _ _ b.2⟩
theorem E7q {S:Array Bool→World→Prop}:∀ (c:Nat) (b:Array Bool) (a:Act) (w:World),AH ρ P ops Q S c b a w→wpAnyIn (FW ρ) 0 P .any ops Q c b a w
 | 0,_,_,_,h=>h
 | c+1,_,_,_,h=>⟨h.1,fun i f=>B7n (fun e w' d=>E7q c _ e w' d.2) (h.2 i f)⟩
theorem C0l {i:Nat} {o:Oper} {v:Value} {a:Act} (b:A2q ops=true) (d:ops[i]?=some o) (g:YieldsIf P ops S o v a)
  {K:Act→World→Prop} {w:World} (f:S w) (h:K (a.put o.dst v) w):wpOpIn (FW ρ) 0 P ops Q i K a w:=by
 unfold wpOpIn
 simp only [d]
 rcases g with ⟨c,e⟩ | ⟨c,rfl⟩
 ·simp only [c,if_true]
  refine A8j (C9t b d) ?_
  simp only [Oper.wp,e w f,Oper.upon];exact h
 ·simp only [c,Bool.false_eq_true,if_false];exact ⟨fun _ _=>trivial,h⟩
theorem D1g {j:Nat} {g oj:Oper} {v:Value} (z:A2q ops=true) (hj:ops[j]?=some oj) (y:g.apart ops oj=true)
  (a2:∀ cs b,g.op≠.select cs b) (a0:∀ cs b,oj.op≠.select cs b)
  (hQ:∀ c a w,Q (.panic c) (a.put g.dst v) w→Q (.panic c) a w) {K:Act→World→Prop} {a:Act} {w:World}
  (i:YieldsIf P ops S g v a) (h:wpOpIn (FW ρ) 0 P ops Q j K (a.put g.dst v) w) :
  wpOpIn (FW ρ) 0 P ops Q j (fun a' w'=>YieldsIf P ops S g v a'∧K (a'.put g.dst v) w') a w:=by
 obtain ⟨h1,o,h3⟩:=Oper.apart_spec y
 have q:=C9t z hj
 have B9l:∀ (a:Act),YieldsIf P ops S g v a→∀ u,YieldsIf P ops S g v (a.put oj.dst u):=fun a i u =>
  i.of_same (execOp_put g a2 a oj.dst u h3) (wanted_put g a oj.dst u h3)
 have m:∀ d,YieldsIf P ops S g v {a with defers:=d::a.defers}:=fun d=>i.of_same rfl rfl
 unfold wpOpIn at *
 simp only [hj] at *
 rw [wanted_put oj a g.dst v h1] at h
 split
 ·rename_i t
  simp only [t,if_true] at h
  have p:∀ (b:Act),oj.semAt (FW ρ).round b.eval=execOp b.eval oj:=fun b=>Oper.semAt_eq _ _ _ (fun c hc=>by rw [hc] at q;cases q)
  refine ⟨fun _ _=>trivial,?_⟩
  obtain ⟨_,h⟩:=h
  rw [p] at h ⊢
  rw [execOp_put oj a0 a g.dst v h1] at h
  generalize (execOp a.eval oj).run P w=r at *
  cases r with
  | ok n w' =>
   cases n<;>simp only [Oper.uponIn] at h ⊢
   case value u=>exact ⟨B9l a i u,by rw [← Act.put_comm a v u o];exact h⟩
   case skip=>exact ⟨B9l a i _,by rw [← Act.put_comm a v undef o];exact h⟩
   case defer d =>
    refine ⟨B9l _ (m d) _,?_⟩
    rw [← Act.put_comm _ v undef o,← Act.put_defers]
    exact h
   case enter f args =>
    refine ⟨h.1,h.2.mono fun e s k=>?_⟩
    cases e with
    | returned u=>exact ⟨B9l a i u,by rw [← Act.put_comm a v u o];exact k⟩
    | panicked c=>exact hQ _ _ _ k
    | outgrown=>exact k
   case row row args=>exact ⟨h.1,h.2.mono fun u s k=>⟨B9l a i u,by rw [← Act.put_comm a v u o];exact k⟩⟩
   case round l f tmps assign body =>
    refine ⟨h.1,h.2.mono fun e s k=>?_⟩
    cases e with
    | returned u=>exact ⟨B9l a i u,by rw [← Act.put_comm a v u o];exact k⟩
    | panicked c=>exact hQ _ _ _ k
    | outgrown=>exact k
  | halt x w' =>
   cases x<;>simp only [Oper.uponIn] at h ⊢
   case panic u=>exact hQ _ _ _ h
 ·rename_i t
  simp only [t] at h
  exact ⟨fun _ _=>trivial,B9l a i _,by rw [← Act.put_comm a v undef o];exact h.2⟩
def B8v (a:Array Oper) (i e:Nat):Bool:=match a[e]? with
 | some o=>o.after.any fun d=>d.on == i&&Region.binds .any d
 | none=>false
theorem D0i {i e:Nat} {listed:Array Bool} (c:B8v ops i e=true) (f:listed.getD i true=false):e ∉ Region.ready .any ops listed:=by
 intro j
 obtain ⟨_,o,k,a⟩:=mem_ready.1 j
 unfold B8v at c
 rw [k] at c
 simp only [Array.any_eq_true',Bool.and_eq_true,beq_iff_eq] at c
 obtain ⟨d,g,h,l⟩:=c
 have b:=a d g l
 rw [h] at b
 rcases Nat.lt_or_ge i listed.size with h' | h'
 ·simp [h'] at f b;rw [f] at b;cases b
 ·simp [Array.getElem?_eq_none h'] at f
theorem E4n {S:Array Bool→World→Prop} {i:Nat} {z:Oper} {v:Value} (t:A2q ops=true) (hi:ops[i]?=some z) (q:∀ (j:Nat) (o:Oper) cs b,ops[j]?=some o→o.op≠.select cs b)
  (hQ:∀ c a w,Q (.panic c) (a.put z.dst v) w→Q (.panic c) a w) (Y:World→Prop) (x:∀ (d:Array Bool) w,S (d.setIfInBounds i true) w ↔ S d w) (hY:∀ d:Array Bool,(∀ e,B8v ops i e=true→d.getD e false=false)→∀ w,S d w→Y w) :
  ∀ (g:Nat) (d:Array Bool) (a:Act) (w:World),
   (∀ j u,ops[j]?=some u→j≠i→d.getD j true=false→(∀ e ∈ u.after,Region.binds .any e=true→e.on≠i)→z.apart ops u=true) →
   (∀ e,B8v ops i e=true→d.getD e false=false) →
   i ∈ Region.ready .any ops d→YieldsIf P ops Y z v a→S d w →
   AH ρ P ops Q S g (d.setIfInBounds i true) (a.put z.dst v) w→AH ρ P ops Q S (g+1) d a w:=by
 intro g
 induction g with
 | zero =>
  intro d a w _ f hr hy hS H
  refine ⟨fun h=>(by rw [h] at hr;cases hr),fun j hj=>?_⟩
  by_cases hji:j=i
  ·subst hji;exact C0l t hi hy (hY _ f _ hS) ⟨(x _ _).2 hS,H⟩
  ·have:=ready_mono hj hji
   rw [H.1] at this
   cases this
 | succ g ih =>
  intro d a w m f hr hy hS H
  refine ⟨fun h=>(by rw [h] at hr;cases hr),fun j hj=>?_⟩
  by_cases hji:j=i
  ·subst hji;exact C0l t hi hy (hY _ f _ hS) ⟨(x _ _).2 hS,H⟩
  ·have h1:=H.2 j (ready_mono hj hji)
   obtain ⟨r,u,s,a4⟩:=mem_ready.1 hj
   have l:=(mem_ready.1 hr).1
   have a5:∀ e ∈ u.after,Region.binds .any e=true→e.on≠i:=fun e he hb a9=>by
    have h1:=a4 e he hb
    rw [a9] at h1
    rcases Nat.lt_or_ge i d.size with h' | h'
    ·simp [h'] at l h1;rw [l] at h1;cases h1
    ·simp [Array.getElem?_eq_none h'] at l
   have h2:=D1g t s (m j u s hji r a5) (fun cs b=>q i z cs b hi) (fun cs b=>q j u cs b s) hQ hy h1
   have p:∀ k ok,ops[k]?=some ok→k≠i→(d.setIfInBounds j true).getD k true=false →
     (∀ e ∈ ok.after,Region.binds .any e=true→e.on≠i)→z.apart ops ok=true:=fun k ok hk ab a2 aa=>by
    refine m k ok hk ab ?_ aa
    by_cases hjk:j=k
    ·subst hjk;exact r
    ·rw [getD_set_ne true hjk] at a2;exact a2
   have n:∀ e,B8v ops i e=true→(d.setIfInBounds j true).getD e false=false:=fun e he=>by
    by_cases hje:j=e
    ·subst hje;exact absurd hj (D0i he l)
    ·rw [getD_set_ne false hje];exact f e he
   refine B7n (fun a' w' h3=>?_) h2
   obtain ⟨y,hs,hh⟩:=h3
   rw [Array.setIfInBounds_comm _ _ (Ne.symm hji)] at hs hh
   have a1:=(x _ _).1 hs
   exact ⟨a1,ih (d.setIfInBounds j true) a' w' p n (ready_mono hr (Ne.symm hji)) y a1 hh⟩
end
section
variable {P:Program} {n:Nat} {X:Cx} {K:Act→World→Prop} {Q:Exit→Act→World→Prop} {E E':bX} {L L' Ls:Own} {Φ Φ' Φs:List Pers}
def oN (K:Act→World→Prop):Exit→Act→World→Prop
 | .normal,a,w=>K a w
 | _,_,_=>False
abbrev V2:=List (Nat×Own)
def V2.at (b:V2) (a:Array Bool):Own:=((b.filter fun p=>!(a.getD p.1 false)).map (·.2)).flatten
def V2.of (a:V2) (b:Array Oper) (i:Nat):Own:=((a.filter fun p=>B8v b i p.1||!(Nat.blt p.1 b.size)).map (·.2)).flatten
theorem B9f {α:Type} {l b:List (List α)} (h:l.Sublist b):l.flatten.Sublist b.flatten:=by
 induction h with
 | slnil=>exact List.Sublist.slnil
 | cons a _ ih=>rw [List.flatten_cons];exact ih.trans (List.sublist_append_right _ _)
 | cons_cons a _ ih=>rw [List.flatten_cons,List.flatten_cons];exact (List.Sublist.refl _).append ih
theorem C2y {α:Type} {p q:α→Bool}:∀ (l:List α),(∀ x ∈ l,p x=true→q x=true)→(l.filter p).Sublist (l.filter q)
 | [],_=>List.Sublist.slnil
 | x::l,h=>by
  have a:=C2y l fun y b=>h y (List.mem_cons_of_mem _ b)
  rw [List.filter_cons,List.filter_cons]
  by_cases hp:p x=true
  ·rw [if_pos hp,if_pos (h x (List.mem_cons_self ..) hp)];exact a.cons_cons x
  ·rw [if_neg hp]
   split
   ·exact a.cons x
   ·exact a
theorem V2.of_at {c:V2} {b:Array Oper} {i:Nat} {a:Array Bool} (g:a.size≤b.size) (h:∀ e,B8v b i e=true→a.getD e false=false):(c.of b i).Sublist (c.at a):=by
 refine B9f ((C2y _ fun x _ d=>?_).map _)
 simp only [Bool.or_eq_true,Bool.not_eq_true'] at d ⊢
 rcases d with d | d
 ·exact h _ d
 ·have:¬ x.1<b.size:=fun f=>by have:=Nat.ble_eq_true_of_le f;unfold Nat.blt at d;rw [d] at this;cases this
  simp [Array.getElem?_eq_none (show a.size≤x.1 by omega)]
theorem V2.at_set {a:V2} {i:Nat} {listed:Array Bool} (h:a.all (fun p=>!(p.1 == i))=true):a.at (listed.setIfInBounds i true)=a.at listed:=by
 unfold V2.at
 congr 2
 refine List.filter_congr fun x c=>?_
 have:=List.all_eq_true.1 h x c
 have b:i≠x.1:=by simp at this;exact fun e=>this e.symm
 rw [getD_set_ne false b]
structure JH (P:Program) (n:Nat) (X:Cx) (ops:Array Oper) (fuel:Nat) (listed:Array Bool) (K:Act→World→Prop) (held:V2) (Φs:List Pers) (E:bX) (L:Own) (Φ:List Pers):Prop where
 go:A2q ops=true→Region.noSelect ops=true→listed.size=ops.size→(held.at listed).Sublist L→A9 Φ Φs→∀ a w,St n X E L Φ a w→AH X.rho P ops (oN K) (fun l w=>l.size=ops.size∧cC X (held.at l) Φs w) fuel listed a w
theorem E7e {id:Nat} {b:Array Oper} (m:Nat) (c:V2) (Φs:List Pers) (i:P.follows .mixedOrders=true) (g:b.size=m) (f:(A2q b&&Region.noSelect b)=true) (j:(c.at (Array.replicate m false)).Sublist L) (hΦ:A9 Φ Φs)
  (h:JH P n X b m (Array.replicate m false) (Q .normal) c Φs E L Φ):J P n X (.region id b true) Q E L Φ:=fun a w d=>by
 simp only [Bool.and_eq_true] at f
 refine Code.wpIn_mono (Q:=oN (Q .normal)) (fun e a w q=>by cases e<;>first|exact q|exact q.elim) ?_
 refine wpIn_region_any i (E7q (S:=fun l w=>l.size=b.size∧cC X (c.at l) Φs w) _ _ _ _ ?_)
 subst g
 exact h.go f.1 f.2 oom j hΦ a _ ⟨d.size,d.defers,d.has,d.world.drawn _⟩
def A9w (b:Array Oper) (c:V2) (a:Array Bool) (i:Nat):Bool:=Region.free .any b a i&&(Region.ready .any b a).contains i&&(c.all (fun p=>!(p.1 == i)))&&(List.range b.size).all fun e=>!(B8v b i e)||!(a.getD e false)
theorem D5f {a:Array Oper} {i e:Nat} (h:B8v a i e=true):e<a.size:=by
 unfold B8v at h
 split at h
 ·rename_i o b;exact (Array.getElem?_eq_some_iff.1 b).1
 ·cases h
theorem D7c {d:Array Oper} {g:Nat} {b:Array Bool} {f:V2} (i:Nat) {o:Oper} {v:Value} {Ls:Own} (q:d[i]?=some o) (t:X6 n o.dst=true) (r:A9w d f b i=true) (k:f.of d i=Ls)
  (z:∀ a,Has a E→YieldsIf P d (cC X Ls Φs) o v a) (h:JH P n X d g (b.setIfInBounds i true) K f Φs (bX.put E o.dst v) L Φ):JH P n X d (g+1) b K f Φs E L Φ :=
 ⟨fun h1 h2 hsz hL hΦ a w hs=>by
  simp only [A9w,Bool.and_eq_true] at r
  obtain ⟨⟨⟨t1,y⟩,m⟩,u⟩:=r
  have j:∀ e,B8v d i e=true→b.getD e false=false:=fun e s=>by
   have:=List.all_eq_true.1 u e (List.mem_range.2 (D5f s))
   rw [s] at this;simpa using this
  refine E4n (Y:=cC X Ls Φs) h1 q (Region.noSelect_spec h2) (fun c a w hq=>hq) (fun l w=>by rw [V2.at_set m];simp) (fun l x w p=>?_) g b a w (Region.free_spec q t1) j (by simpa using y) (z a hs.has) ⟨hsz,(hs.world.sub hL).foll hΦ⟩ (h.go h1 h2 (by simpa using hsz) (by rw [V2.at_set m];exact hL) hΦ _ w (hs.put t v hs.world))
  exact p.2.sub (k▸V2.of_at (Nat.le_of_eq p.1) x)⟩
theorem E8m {d:Array Oper} {e:Nat} {b:Array Bool} {c:V2} (i:Nat) {o:Oper} (k:d[i]?=some o) (g:A6r d o E=some false) (f:X6 n o.dst=true) (j:A9w d c b i=true)
  (h:JH P n X d e (b.setIfInBounds i true) K c Φs (bX.put E o.dst undef) L Φ):JH P n X d (e+1) b K c Φs E L Φ :=
 D7c i k f j rfl (fun a l=>.inr ⟨A0o l g,rfl⟩) h
theorem E1l {d:Array Oper} {e:Nat} {b:Array Bool} {c:V2} (i:Nat) {o:Oper} {v:Value} (Ls:Own) (l:d[i]?=some o) (q:A6r d o E=some true) (j:X6 n o.dst=true) (p:A9w d c b i=true) (f:c.of d i=Ls)
  (m:I6 P X o E Ls Φs v) (h:JH P n X d e (b.setIfInBounds i true) K c Φs (bX.put E o.dst v) L Φ):JH P n X d (e+1) b K c Φs E L Φ :=
 D7c i l j p f (fun a g=>.inl ⟨A0o g q,fun w k=>m a w g k⟩) h
theorem E5p {c:Array Oper} {e:Nat} {b:Array Bool} {d:V2} (i:Nat) {o:Oper} {α:Type} {val:α→Value} {L':α→Own} {Φ':α→List Pers} (p:c[i]?=some o) (u:A6r c o E=some true) (m:X6 n o.dst=true)
  (s:Tri P n X o E L Φ α val L' Φ') (g:∀ x,(d.at (b.setIfInBounds i true)).Sublist (L' x)) (hΦ':∀ x,A9 (Φ' x) Φs) (h:∀ x,JH P n X c e (b.setIfInBounds i true) K d Φs (bX.put E o.dst (val x)) (L' x) (Φ' x)) :
  ∀ a w,St n X E L Φ a w→A2q c=true→Region.noSelect c=true→b.size=c.size→wpOpIn (FW X.rho) 0 P c (oN K) i (fun q w'=>((b.setIfInBounds i true).size=c.size∧cC X (d.at (b.setIfInBounds i true)) Φs w')∧AH X.rho P c (oN K) (fun l w=>l.size=c.size∧cC X (d.at l) Φs w) e (b.setIfInBounds i true) q w') a w:=fun a w k t r j=>by
 unfold wpOpIn
 simp only [p]
 rw [if_pos (A0o k.has u)]
 exact s a w _ _ k fun x w' f=>⟨⟨by simpa using j,(f.sub (g x)).foll (hΦ' x)⟩,(h x).go t r (by simpa using j) (g x) (hΦ' x) _ _ (k.put m _ f)⟩
theorem F1a {d:Array Oper} {e:Nat} {b:Array Bool} {c:V2} (i:Nat) {o:Oper} {α:Type} {val:α→Value} {L':α→Own} {Φ':α→List Pers} (m:d[i]?=some o) (q:A6r d o E=some true) (l:X6 n o.dst=true) (hr:Region.ready .any d b=[i])
  (p:Tri P n X o E L Φ α val L' Φ') (f:∀ x,(c.at (b.setIfInBounds i true)).Sublist (L' x)) (hΦ':∀ x,A9 (Φ' x) Φs) (h:∀ x,JH P n X d e (b.setIfInBounds i true) K c Φs (bX.put E o.dst (val x)) (L' x) (Φ' x)):JH P n X d (e+1) b K c Φs E L Φ :=
 ⟨fun h1 h2 hsz hL hΦ a w hs=>by
  refine ⟨fun g=>(by rw [hr] at g;cases g),fun j k=>?_⟩
  rw [hr] at k
  obtain rfl:j=i:=by simpa using k
  exact E5p j m q l p f hΦ' h a w hs h1 h2 hsz⟩
theorem D3w {c:Array Oper} {e:Nat} {b:Array Bool} {d:V2} (i k:Nat) (hr:Region.ready .any c b=[i,k])
  (o:∀ a w,St n X E L Φ a w→A2q c=true→Region.noSelect c=true→b.size=c.size→wpOpIn (FW X.rho) 0 P c (oN K) i (fun f w'=>((b.setIfInBounds i true).size=c.size∧cC X (d.at (b.setIfInBounds i true)) Φs w')∧AH X.rho P c (oN K) (fun l w=>l.size=c.size∧cC X (d.at l) Φs w) e (b.setIfInBounds i true) f w') a w)
  (p:∀ a w,St n X E L Φ a w→A2q c=true→Region.noSelect c=true→b.size=c.size→wpOpIn (FW X.rho) 0 P c (oN K) k (fun f w'=>((b.setIfInBounds k true).size=c.size∧cC X (d.at (b.setIfInBounds k true)) Φs w')∧AH X.rho P c (oN K) (fun l w=>l.size=c.size∧cC X (d.at l) Φs w) e (b.setIfInBounds k true) f w') a w):JH P n X c (e+1) b K d Φs E L Φ :=
 ⟨fun h1 h2 hsz hL hΦ a w hs=>by
  refine ⟨fun m=>(by rw [hr] at m;cases m),fun j g=>?_⟩
  rw [hr] at g
  simp only [List.mem_cons,List.not_mem_nil,or_false] at g
  rcases g with rfl | rfl
  ·exact o a w hs h1 h2 hsz
  ·exact p a w hs h1 h2 hsz⟩
theorem A2a {e:Array Oper} {c:Nat} {b:Array Bool} {d:V2} (hr:Region.ready .any e b=[]) (h:JQ n X K E L Φ):JH P n X e c b K d Φs E L Φ :=
 ⟨fun _ _ _ _ _ a w g=>by
  cases c with
  | zero=>exact ⟨hr,h a w g⟩
  | succ f=>exact ⟨fun _=>h a w g,fun i j=>by rw [hr] at j;cases j⟩⟩
theorem F2k {e:Array Oper} {d:Nat} {b:Array Bool} {c:V2} (hE:∀ a,Has a E→Has a E') (h:JH P n X e d b K c Φs E' L Φ):JH P n X e d b K c Φs E L Φ :=
 ⟨fun h1 h2 hsz hL hΦ a w hs=>h.go h1 h2 hsz hL hΦ a w ⟨hs.size,hs.defers,hE a hs.has,hs.world⟩⟩
theorem E6m {e:Array Oper} {d:Nat} {b:Array Bool} {c:V2} (t:Nat) (g:Bool) (f:E.lookup t=some (.bool g)) (i:g=true→JH P n X e d b K c Φs ((t,.bool true)::E) L Φ) (j:g=false→JH P n X e d b K c Φs ((t,.bool false)::E) L Φ):JH P n X e d b K c Φs E L Φ:=by
 refine ⟨fun a1 a2 a3 hL hΦ a w hs=>?_⟩
 cases hg:g with
 | true=>exact (i hg).go a1 a2 a3 hL hΦ a w ⟨hs.size,hs.defers,hs.has.lit f hg,hs.world⟩
 | false=>exact (j hg).go a1 a2 a3 hL hΦ a w ⟨hs.size,hs.defers,hs.has.lit f hg,hs.world⟩
def B4r (P:Program) (n:Nat) (a:Array Oper) (b:V2):List Nat→Array Bool→bX→Option (Array Bool×bX)
 | [],listed,E=>some (listed,E)
 | i::is,listed,E=>match a[i]? with
  | some o=>if A9w a b listed i then match B2u P n a o E with
    | some E'=>B4r P n a b is (listed.setIfInBounds i true) E'
    | none=>none
   else none
  | none=>none
theorem E7j {g:Array Oper} {e:V2}:∀ (is:List Nat) {d:Nat} {c b:Array Bool} {E R:bX},B4r P n g e is c E=some (b,R)→JH P n X g d b K e Φs R L Φ→JH P n X g (is.length+d) c K e Φs E L Φ
 | [],d,c,b,E,R,h,k=>by
  simp only [B4r,Option.some.injEq,Prod.mk.injEq] at h
  obtain ⟨rfl,rfl⟩:=h
  simpa using k
 | i::is,d,c,b,E,R,h,k=>by
  unfold B4r at h
  rw [List.length_cons,Nat.add_right_comm]
  split at h
  ·rename_i o l
   split at h
   ·rename_i p
    split at h
    ·rename_i E1 f
     have m:=E7j is h k
     unfold B2u at f
     split at f
     ·rename_i hr j
      split at f
      ·rename_i v q
       simp only [Option.some.injEq] at f;subst f
       exact E1l i _ l hr j p rfl (fun a w r _=>D0d q a w r) m
      ·cases f
     ·rename_i hr j
      simp only [Option.some.injEq] at f;subst f
      exact E8m i l hr j p m
     ·cases f
    ·cases h
   ·cases h
  ·cases h
def D3n (b:Array Oper) (E a:bX):List Nat→Bool
 | []=>true
 | i::is=>(match (b[i]?).bind (·.dst) with
  | some d=>B6t a d||!B6t E d
  | none=>true)&&D3n b E a is
theorem C7c {f:Array Oper} {c:V2} {b:bX} {t:Nat} {v:Value} (E0:bX) (k:E0.lookup t=some v) (m:b.lookup t=none):∀ (is:List Nat) {l j:Array Bool} {E R:bX},D3n f E0 b is=true→B4r P n f c is l E=some (j,R)→E.lookup t=some v→R.lookup t=some v
 | [],l,j,E,R,_,h,he=>by simp only [B4r,Option.some.injEq,Prod.mk.injEq] at h;obtain ⟨_,rfl⟩:=h;exact he
 | i::is,l,j,E,R,hk,h,he=>by
  unfold B4r at h
  unfold D3n at hk
  simp only [Bool.and_eq_true] at hk
  split at h
  ·rename_i o p
   split at h
   ·split at h
    ·rename_i E1 a
     refine C7c E0 k m is hk.2 h ?_
     have g:o.dst≠some t:=by
      intro g
      have:=hk.1
      simp only [p,Option.bind_some,g,B6t,m,k] at this
      simp at this
     have put:∀ u,(bX.put E o.dst u).lookup t=some v:=by
      intro u
      cases hdst:o.dst with
      | none=>exact he
      | some d =>
       have:(t == d)=false:=by simp;intro e;exact g (by rw [hdst,e])
       simp only [bX.put,List.lookup,this];exact he
     unfold B2u at a
     split at a
     ·split at a
      ·simp only [Option.some.injEq] at a;subst a;exact put _
      ·cases a
     ·simp only [Option.some.injEq] at a;subst a;exact put _
     ·cases a
    ·cases h
   ·cases h
  ·cases h
def C1k (P:Program) (n:Nat) (b:Array Oper) (d:V2) (is:List Nat) (a:Array Bool) (E c:bX):Option (Array Bool×bX) :=
 if D3n b E c is then match B4r P n b d is a E with
  | some (l,R)=>match B9l R c with
   | some R'=>some (l,R')
   | none=>none
  | none=>none
 else none
theorem F3j {j:Array Oper} {d:V2} (is:List Nat) (f:Nat) {c:Array Bool} (b:Array Bool) (i:bX) (h:C1k P n j d is c E i=some (b,i)) (g:JH P n X j f b K d Φs (i++E) L Φ):JH P n X j (is.length+f) c K d Φs E L Φ:=by
 unfold C1k at h
 split at h
 ·rename_i p
  split at h
  ·rename_i l R hR
   split at h
   ·rename_i R' k
    simp only [Option.some.injEq,Prod.mk.injEq] at h
    obtain ⟨rfl,rfl⟩:=h
    refine E7j is hR (F2k (fun a o t v e=>?_) g)
    rw [B5a] at e
    split at e
    ·rename_i u m
     exact (o.weaken (S3 (C0b k))) t v (by rw [m];exact e)
    ·rename_i m
     exact o t v (C7c E e m is p hR e)
   ·cases h
  ·cases h
 ·cases h
theorem E8j {d:Array Oper} {e:Nat} {a:Array Bool} {c:V2} (i:Nat) {o:Oper} {v:Value} (Ls:Own) (b:Array Bool) (k:d[i]?=some o) (j:A6r d o E=some true) (g:X6 n o.dst=true) (m:A9w d c a i=true) (f:c.of d i=Ls) (l:a.setIfInBounds i true=b)
  (p:I6 P X o E Ls Φs v) (h:JH P n X d e b K c Φs (bX.put E o.dst v) L Φ):JH P n X d (e+1) a K c Φs E L Φ:=E1l i Ls k j g m f p (l▸h)
theorem hone {d:Array Oper} {e:Nat} {b:Array Bool} {c:V2} (i:Nat) {o:Oper} {α:Type} {val:α→Value} {L':α→Own} {Φ':α→List Pers} (Lh:Own) (a:Array Bool) (j:d[i]?=some o) (p:A6r d o E=some true) (g:X6 n o.dst=true) (hr:Region.ready .any d b=[i])
  (k:b.setIfInBounds i true=a) (l:c.at a=Lh) (m:Tri P n X o E L Φ α val L' Φ') (f:∀ x,Lh.Sublist (L' x)) (hΦ':∀ x,A9 (Φ' x) Φs) (h:∀ x,JH P n X d e a K c Φs (bX.put E o.dst (val x)) (L' x) (Φ' x)):JH P n X d (e+1) b K c Φs E L Φ:=by
 subst k l
 exact F1a i j p g hr m f hΦ' h
theorem sh {id:Nat} {c:Array Oper} {y:Code} (m:Nat) (b:V2) (Φs:List Pers) (Lh:Own) (d:Array Bool) (j:P.follows .mixedOrders=true) (i:c.size=m) (f:(A2q c&&Region.noSelect c)=true) (g:Array.replicate m false=d) (e:b.at d=Lh) (k:Lh.Sublist L) (hΦ:A9 Φ Φs)
  (h:JH P n X c m d (fun a w=>y.wpIn (FW X.rho) 0 P Q a w) b Φs E L Φ):J P n X (.seq (.region id c true) y) Q E L Φ:=by
 subst g e
 exact A5 (E7e m b Φs j i f k hΦ h)
theorem sh' {id:Nat} {b:Array Oper} (m:Nat) (a:V2) (Φs:List Pers) (Lh:Own) (c:Array Bool) (i:P.follows .mixedOrders=true) (g:b.size=m) (e:(A2q b&&Region.noSelect b)=true) (f:Array.replicate m false=c) (d:a.at c=Lh) (j:Lh.Sublist L) (hΦ:A9 Φ Φs)
  (h:JH P n X b m c (Q .normal) a Φs E L Φ):J P n X (.region id b true) Q E L Φ:=by
 subst f d
 exact E7e m a Φs i g e j hΦ h
theorem B1f {d:Array Oper} {e:Nat} {b:Array Bool} {c:V2} {y:Code} (hr:Region.ready .any d b=[]) (h:J P n X y Q E L Φ):JH P n X d e b (fun a w=>y.wpIn (FW X.rho) 0 P Q a w) c Φs E L Φ:=A2a hr h
end
section
variable {P:Program} {n:Nat} {X:Cx} {K:Act→World→Prop} {Q:Exit→Act→World→Prop} {E E':bX} {L L':Own} {Φ Φ':List Pers}
theorem cC.perm {w:World} (h:cC X L Φ w) (b:L.Perm L'):cC X L' Φ w :=
 let ⟨p,q⟩:=h;⟨p,⟨q.facts,q.sub,q.le,q.dom,⟨fun e a=>q.own.1 e (b.symm.subset a),(b.map Prod.fst).nodup_iff.1 q.own.2⟩,fun e a=>q.may e (b.symm.subset a),q.kept,fun d c=>let ⟨h1,h2,h3,h4⟩:=q.res d c;⟨h1,h2,fun e a=>h3 e (b.symm.subset a),h4⟩⟩⟩
theorem C9u {α:Type} (a b c:List α):(a++(b++c)).Perm (b++(a++c)):=by
 rw [← List.append_assoc,← List.append_assoc]
 exact List.perm_append_comm.append_right c
theorem cC.turn {pre L0 L1 post:Own} {w w':World} (h:cC X (pre++(L0++post)) Φ w) (k:KeptBut (L0.map Prod.fst) w w') (i:∀ e ∈ L1,w'.heap[e.1]?=some e.2∧(e.1 ∈ L0.map Prod.fst∨w.heap.size≤e.1)) (m:(L1.map Prod.fst).Nodup) :
  cC X (pre++(L1++post)) Φ w':=by
 obtain ⟨p,f⟩:=h
 have a:∀ b ∈ L0.map Prod.fst,p b=none:=fun b g=>by
  obtain ⟨e,c,rfl⟩:=List.mem_map.1 g
  exact (f.own.1 e (List.mem_append_right _ (List.mem_append_left _ c))).2
 have r:cC (cx w p (L0.map Prod.fst)) L1 [] w':=by
  refine ⟨p,⟨fun q n=>(by cases n),fun b o e=>?_,Hp.le_refl p,fun b g=>.inl g,⟨fun e c=>⟨(i e c).1,?_⟩,m⟩,fun e c=>(i e c).2,k,fun d l=>(by cases l)⟩⟩
  ·rw [k.block b (Hp.lt f.sub e) (fun s=>by rw [a b s] at e;cases e)];exact f.sub b o e
  ·rcases (i e c).2 with j | j
   ·exact a _ j
   ·cases h3:p e.1 with
    | none=>rfl
    | some o=>have:=Hp.lt f.sub h3;omega
 have:=cC.call (L0:=L0) (L2:=pre++post) f (C9u _ _ _) r
 exact (this.foll fun _ h=>by simpa using h).perm (C9u _ _ _).symm
structure VR where
 q:Option Nat
 k:Nat
 j:List Value
def va (q:Option Nat):Option Addr:=match q with | none=>none | some b=>some ⟨b,0,none⟩
def bR (sz n:Nat) (r:VR):Prop:=match r.q with
 | none=>n=0∧r.k=0
 | some _=>n * sz+r.j.length=r.k * sz∧n≤r.k∧r.k≤maxLen
def vo {α:Type} (c:α→List Value) (T:Nat) (r:VR) (xs:List α):Own:=match r.q with
 | none=>[]
 | some b=>[bx b (xs.flatMap c++r.j) T]
abbrev vv (r:VR) (n:Nat):Value:=.slice (va r.q) n r.k
def VR.nil:VR:=⟨none,0,[]⟩
theorem bR.nil {sz:Nat}:bR sz 0 VR.nil:=⟨rfl,rfl⟩
theorem bR.some {sz n:Nat} {r:VR} (h:bR sz n r) (c:0<n):∃ b,r.q=Option.some b:=by
 unfold bR at h
 split at h
 ·omega
 ·rename_i b a;exact ⟨b,a⟩
theorem bR.cast {sz n m:Nat} {r:VR} (h:bR sz n r) (a:n=m):bR sz m r:=a▸h
structure ApTy (P:Program) (T e sz by':Nat):Prop where
 ty:P.underlying T=some (.slice e)
 info:(P.info? e).map (fun i=>(i.size,i.bytes,i.zero.map (·.cells.size)))=some (sz,by',some sz)
 pos:Nat.blt 0 sz=true
theorem G4 {α:Type} {c:α→List Value} {sz:Nat} (a:∀ x,(c x).length=sz):∀ xs:List α,(xs.flatMap c).length=xs.length * sz
 | []=>by simp
 | x::xs=>by rw [List.flatMap_cons,List.length_append,a,G4 a xs,List.length_cons,Nat.succ_mul];omega
theorem B9z {α:Type} {c:α→List Value} (b:∀ x,(c x).all (·.oneCell')=true) (xs:List α):∀ u ∈ xs.flatMap c,u.oneCell'=true:=fun u a=>by
 obtain ⟨x,_,h⟩:=List.mem_flatMap.1 a
 exact List.all_eq_true.1 (b x) u h
theorem D0x {T e sz a0 ty:Nat} (hT:ApTy P T e sz a0) {α:Type} {f:α→List Value} (hf:∀ x,(f x).length=sz) (an:∀ x,(f x).all (·.oneCell')=true) {r:VR} {xs ys:List α} {pre post:Own} {w:World} {a:Addr} {m cc:Nat} (hm:m=ys.length)
  (hw:cC X (pre++(vo f e r xs++post)) Φ w) (hq:S1 Φ (sl f (some a) ys)) (c:bR sz xs.length r) (hb:(xs.length+ys.length) * a0≤140737488355328) (ak:xs.length+ys.length≤maxLen) :
  ∃ r' w',(Builtin.append_ #[T,T] ty #[vv r xs.length,.slice (some a) m cc]).run P w=.ok (vv r' (xs.length+ys.length)) w'∧bR sz (xs.length+ys.length) r'∧cC X (pre++(vo f e r' (xs++ys)++post)) Φ w':=by
 obtain ⟨i,hi,o⟩:=Option.map_eq_some_iff.1 hT.info
 simp only [Prod.mk.injEq] at o
 obtain ⟨h4,h5,h6⟩:=o
 obtain ⟨z,hz,h6⟩:=Option.map_eq_some_iff.1 h6
 obtain ⟨p,hp⟩:=hw
 have l:A7i p a (ys.flatMap f):=hq p hp.facts
 have a1:0<sz:=by simpa [Nat.blt_eq] using hT.pos
 have a8:w.ownsRow 0 e sz (vv r xs.length) xs.length (xs.flatMap f):=by
  refine ⟨G4 hf xs,?_⟩
  unfold bR at c
  split at c
  ·rename_i hq0
   refine .inl ⟨?_,c.1⟩
   unfold vv va
   rw [hq0,c.1,c.2]
  ·rename_i b hq0
   refine .inr ⟨b,r.k,(xs.flatMap f++r.j).toArray,?_,Nat.zero_le _,?_,c.2.1,c.2.2,?_,?_⟩
   ·unfold vv va;rw [hq0]
   ·have:=hp.own.1 (bx b (xs.flatMap f++r.j) e) (List.mem_append_right _ (List.mem_append_left _ (by unfold vo;rw [hq0];simp)))
    exact this.1
   ·simp only [List.size_toArray,List.length_append,G4 hf];exact c.1
   ·rw [← G4 hf xs];simp
 obtain ⟨v',w',s,h,hg,a6,y⟩:=run_append_own_at (P:=P) w 0 T ty e i z sz a0 hT.ty hi hz h4 h5 h6 a1 (vv r xs.length) xs.length (xs.flatMap f) a8 a m cc (ys.flatMap f)
  (by rw [G4 hf,hm]) (fun j u hj=>l.cell hp.sub hj) (B9z an ys) (by rw [hm];exact ak) (by rw [hm];exact hb) (Nat.zero_le _)
 rw [hm] at h a6
 have d:(vo f e r xs).map Prod.fst=r.q.toList:=by unfold vo;split<;>simp_all
 have n:(vv r xs.length).ownBlock=r.q:=by unfold vv va Value.ownBlock;cases r.q<;>rfl
 have hk:KeptBut ((vo f e r xs).map Prod.fst) w w':=⟨hg.os,hg.tape,hg.output,hg.size,fun k hk aj=>hg.block k hk (fun e'=>aj (by rw [d];rw [n] at e';rw [← e'];simp))⟩
 obtain ⟨ao,ai⟩:=h
 rcases ai with ⟨rfl,a7⟩ | ⟨g,cap,cur,rfl,_,t,a3,a4,af,v⟩
 ·refine ⟨VR.nil,w',?_,?_,?_⟩
  ·rw [s,a7];rfl
  ·rw [a7];exact bR.nil
  ·exact cC.turn ⟨p,hp⟩ hk (by intro e he;cases he) List.nodup_nil
 ·refine ⟨⟨some g,cap,cur.toList.drop ((xs.length+ys.length) * sz)⟩,w',?_,?_,?_⟩
  ·rw [s];rfl
  ·refine ⟨?_,a3,a4⟩
   have:(xs.length+ys.length) * sz≤cap * sz:=Nat.mul_le_mul_right _ a3
   simp only [List.length_drop,Array.length_toList,af];omega
  ·refine cC.turn ⟨p,hp⟩ hk (L1:=[bx g ((xs++ys).flatMap f++cur.toList.drop ((xs.length+ys.length) * sz)) e]) ?_ oom
   intro e' he
   obtain rfl:e'=_:=by simpa using he
   refine ⟨?_,?_⟩
   ·simp only
    rw [t,← List.append_assoc,← v,List.take_append_drop]
   ·rcases y with h1 | h1
    ·refine .inl ?_
     rw [d]
     rw [n] at h1
     rw [← h1];simp [Value.ownBlock]
    ·simp [Value.ownBlock] at h1
     exact .inr (by simp only;omega)
theorem D9k {o:Oper} {c:Call} {T e sz g:Nat} {x y:Operand} {α:Type} {f:α→List Value} {r:VR} {xs ys:List α} {a:Addr} {m cc:Nat} {pre post:Own} (hT:ApTy P T e sz g) (hf:∀ x,(f x).length=sz) (s:∀ x,(f x).all (·.oneCell')=true)
  (u:o.op=.call c) (hc:c.callee=.builtin .append) (p:c.args=#[x,y]) (q:c.argTypes=#[T,T]) (hx:ev E x=some (vv r xs.length)) (v:ev E y=some (.slice (some a) m cc)) (hm:m=ys.length) (hL:L=pre++(vo f e r xs++post))
  (hq:S1 Φ (sl f (some a) ys)) (j:bR sz xs.length r) (hb:(xs.length+ys.length) * g≤140737488355328) (k:xs.length+ys.length≤9223372036854775807) :
  Tri P n X o E L Φ {b:VR // bR sz (xs.length+ys.length) b} (fun b=>vv b.1 (xs.length+ys.length)) (fun b=>pre++(vo f e b.1 (xs++ys)++post)) (fun _=>Φ):=by
 intro ac w K Q l z
 have t:=l.world
 rw [hL] at t
 obtain ⟨b,w',h,d,i⟩:=D0x (ty:=o.type) hT hf s (cc:=cc) hm t hq j hb k
 refine A8j (by rw [u];rfl) ?_
 unfold Oper.wp
 rw [show (execOp ac.eval o).run P w=.ok (.value (vv b (xs.length+ys.length))) w' by
  simp [execOp,u,resolve,hc,p,q,C3 l.has hx,C3 l.has v,invoke,builtin,h]]
 exact z ⟨b,d⟩ w' i
theorem X2 {o:Oper} {T e sz b:Nat} {x y:Operand} {a cap:Nat} {m:Int} (f:SlTy P T e sz) (g:o.op=.indexAddr T x y)
  (c:ev E x=some (.slice (some ⟨b,0,none⟩) a cap)) (i:ev E y=some (.int .i64 m)) (k:Nat) (d:m=k) (h:k<a):I6 P X o E L Φ (.pointer (some ⟨b,k * sz,none⟩)):=by
 have:=E6x (X:=X) (L:=L) (Φ:=Φ) f g c i k d h
 rwa [A1h,Nat.zero_add] at this
theorem E2s {α:Type} {c:α→List Value} {sz:Nat} (d:∀ x,(c x).length=sz) {xs:List α} {j:List Value} {k:Nat} {v:α} (b:xs[k]?=some v) {f:Nat} {u:Value} (a:(c v)[f]?=some u):(xs.flatMap c++j)[k * sz+f]?=some u:=by
 have:=B4b d b f u a
 rw [List.getElem?_append_left (List.getElem?_eq_some_iff.1 this).1];exact this
theorem D9b {o:Oper} {T b off TT sz:Nat} {x:Operand} {α:Type} {c:α→List Value} {xs:List α} {j:List Value} {v:α} {u:Value} (l:Ty P T 1 false) (m:∀ x,(c x).length=sz) (d:o.op=.load T x) (e:ev E x=some (.pointer (some ⟨b,off,none⟩))) (i:Nat)
  (n:L[i]?=some (bx b (xs.flatMap c++j) TT)) (k f:Nat) (a:off=k * sz+f) (h:xs[k]?=some v) (g:(c v)[f]?=some u):I6 P X o E L Φ u :=
 A2 l d e i n (by rw [a];exact E2s m h g)
theorem B3y {o:Oper} {T b off TT sz m:Nat} {x:Operand} {α:Type} {c:α→List Value} {xs:List α} {j us:List Value} {v:α} (q:Ty P T m true) (r:∀ x,(c x).length=sz) (g:o.op=.load T x) (h:ev E x=some (.pointer (some ⟨b,off,none⟩))) (i:Nat)
  (s:L[i]?=some (bx b (xs.flatMap c++j) TT)) (k f:Nat) (a:off=k * sz+f) (n:xs[k]?=some v) (l:((c v).drop f).take m=us) (e:us.length=m):I6 P X o E L Φ (.agg us.toArray):=by
 refine D6 q g h i s ?_ e
 apply List.ext_getElem?
 intro t
 rw [List.getElem?_take,List.getElem?_drop]
 split
 ·rename_i d
  have p:us[t]?=((c v))[f+t]?:=by rw [← l,List.getElem?_take,if_pos d,List.getElem?_drop]
  obtain ⟨u,hu'⟩:∃ u,us[t]?=some u:=⟨us[t]'opx,by simp [e,d]⟩
  rw [hu',a,Nat.add_assoc]
  exact E2s r n (by rw [← p];exact hu')
 ·rename_i d
  rw [List.getElem?_eq_none opx]
theorem D2d (A R us:List Value) (f:Nat) (h:f+us.length≤A.length):Z4 (A++R) us f=Z4 A us f++R:=by
 unfold Z4
 rw [List.take_append_of_le_length opx,List.drop_append_of_le_length h]
 simp [List.append_assoc]
theorem C6t {α:Type} {c:α→List Value} {sz:Nat} (d:∀ x,(c x).length=sz):∀ {xs:List α} {k:Nat} {v b:α} {us:List Value} {f:Nat},xs[k]?=some v→f+us.length≤sz→Z4 (c v) us f=c b→∀ j:List Value,
  Z4 (xs.flatMap c++j) us (k * sz+f)=(xs.set k b).flatMap c++j
 | [],k,v,b,us,f,h,_,_,_=>by cases h
 | x::xs,0,v,b,us,f,h,hl,hp,j=>by
  simp only [List.getElem?_cons_zero,Option.some.injEq] at h;subst h
  have a:=d x
  rw [List.set_cons_zero,List.flatMap_cons,List.flatMap_cons,← hp,Nat.zero_mul,Nat.zero_add,List.append_assoc,List.append_assoc]
  exact D2d _ _ _ _ opx
 | x::xs,k+1,v,b,us,f,h,hl,hp,j=>by
  simp only [List.getElem?_cons_succ] at h
  have e:=C6t d h hl hp j
  have a:=d x
  rw [List.set_cons_succ,List.flatMap_cons,List.flatMap_cons,List.append_assoc,List.append_assoc,← e]
  unfold Z4
  have g:(k+1) * sz+f=sz+(k * sz+f):=by rw [Nat.succ_mul];omega
  rw [g,List.take_append,List.drop_append,a,List.take_of_length_le opx,List.drop_eq_nil_of_le opx]
  rw [show sz+(k * sz+f) - sz=k * sz+f by omega,show sz+(k * sz+f)+us.length - sz=k * sz+f+us.length by omega]
  simp [List.append_assoc]
theorem W7 {o:Oper} {T m b off TT sz:Nat} {agg:Bool} {x y:Operand} {v:Value} {α:Type} {c:α→List Value} {xs:List α} {j us:List Value} {u u':α} (hT:Ty P T m agg) (h:∀ x,(c x).length=sz) (r:o.op=.store T x y) (s:ev E x=some (.pointer (some ⟨b,off,none⟩))) (l:ev E y=some v)
  (i:Nat) (hL:L[i]?=some (bx b (xs.flatMap c++j) TT)) (w:v.cells=us.toArray) (hn:us.length=m) (q:us.all (·.oneCell')=true) (k f:Nat) (a:off=k * sz+f) (e:xs[k]?=some u) (z:Z4 (c u) us f=c u') (d:Nat.ble (f+m) sz=true) :
  Tri P n X o E L Φ Unit (fun _=>undef) (fun _=>L.set i (bx b ((xs.set k u').flatMap c++j) TT)) (fun _=>Φ):=by
 have g:f+m≤sz:=Nat.le_of_ble_eq_true d
 refine D8 hT r s l i hL w hn q (by rw [a];exact C6t h e opx z j) ?_
 have p:=(List.getElem?_eq_some_iff.1 e).1
 have t:(k+1) * sz≤xs.length * sz:=Nat.mul_le_mul_right _ p
 rw [Nat.succ_mul] at t
 refine Nat.ble_eq_true_of_le ?_
 rw [List.length_append,G4 h];omega
theorem E8i {α:Type} {c:α→List Value} {q:Option Addr} {xs:List α} (h:S1 Φ (sl c q xs)) (k:Nat):S1 Φ (sl c q (xs.take k)):=fun p d=>by
 have:=h p d
 cases q with
 | none=>simp only [sl] at this ⊢;rw [this];simp
 | some a =>
  obtain f | ⟨h0,cc,T,fr,h1,h2⟩:=this
  ·exact .inl (List.flatMap_eq_nil_iff.2 fun x g=>List.flatMap_eq_nil_iff.1 f x (List.mem_of_mem_take g))
  refine .inr ⟨h0,cc,T,fr,h1,fun j v b=>h2 j v ?_⟩
  have e:xs.flatMap c=(xs.take k).flatMap c++(xs.drop k).flatMap c:=by rw [← List.flatMap_append,List.take_append_drop]
  rw [e,List.getElem?_append_left (List.getElem?_eq_some_iff.1 b).1];exact b
end
section
variable {P:Program} {n:Nat} {X:Cx} {K:Act→World→Prop} {Q:Exit→Act→World→Prop} {E E':bX} {L L':Own} {Φ Φ':List Pers}
theorem mc (cs:List Own) (m:List Bool) (a:L=cs.flatten) (b:(E5x m cs).flatten=L'):L'.Sublist L:=by
 subst a b;exact B9f (C4j m cs)
theorem H2 (cs:List Own) (is:List Nat) (m:Nat) (d:cs.length=m) (h:is.Perm (List.range m)) (b:L=cs.flatten) (a:List Own) (f:is.map (cs.getD · [])=a) (c:a.flatten=L'):L.Perm L':=by
 subst d b f c
 have e:cs=(List.range cs.length).map (cs.getD · []):=by
  apply List.ext_getElem?
  intro i
  rw [List.getElem?_map]
  by_cases hi:i<cs.length
  ·rw [List.getElem?_range hi];simp [hi,List.getD]
  ·rw [List.getElem?_eq_none (Nat.le_of_not_lt hi),List.getElem?_eq_none (by simpa using Nat.le_of_not_lt hi)];rfl
 have:=((h.map (cs.getD · [])).symm).flatten
 rw [← e] at this
 exact this
end
def B9v (P:Program) (l:Nat) (v:Value) (L:Own) (Φ:List Pers) (post:Bool→Own→List Pers→Prop):Prop :=
 ∀ (w:World) (h:Hp),(∀ q ∈ Φ,q.p h)→h.sub w→A2i L h w →
  YieldAt Fence.wide 0 P l #[v] w fun e w'=>∃ b L' Φ',e=.returned (.bool b)∧post b L' Φ'∧cC (cx w h (L.map Prod.fst)) L' Φ' w'
def C8k (P:Program) (gf:FuncId) (a:List Value) (Φ0:List Pers) {β:Type} (enc:β→Value) (xs:List β):Prop :=
 HasBody P gf∧∀ (l:Nat) (w:World) (h:Hp) (I:List β→Own→List Pers→Prop) (Ix:Own→List Pers→Prop) (L:Own) (Φ:List Pers),I xs L Φ→(∀ q ∈ Φ0,q.p h)→(∀ q ∈ Φ,q.p h)→h.sub w→A2i L h w →
  (∀ x rest L Φ,I (x::rest) L Φ→B9v P l (enc x) L Φ fun b L' Φ'=>if b then I rest L' Φ' else Ix L' Φ') →
  Calls P gf (#[.func (.yield l) #[] #[]]++a.toArray) w fun e w'=>(∃ v,e=.returned v)∧∃ L' Φ',(I [] L' Φ'∨Ix L' Φ')∧cC (cx w h (L.map Prod.fst)) L' Φ' w'
section
variable {P:Program} {n:Nat} {X:Cx} {K:Act→World→Prop} {Q:Exit→Act→World→Prop} {E E':bX} {L L':Own} {Φ Φ':List Pers}
def D7h (P:Program) (X:Cx) (a:Func) (R:Own→List Pers→Prop):Exit→Act→World→Prop :=
 bodyPostM (FW none) 0 P a fun e w'=>(∃ v,e=.returned v)∧∃ L' Φ',R L' Φ'∧cC X L' Φ' w'
theorem D2o {X':Cx} {a:Act} {w:World} {j:Func} {R:Own→List Pers→Prop} {v:Value} (hX:X'=X.wd X'.D) (g:X=X.wd []) (b:X.rho=none) (c:(X'.D.map Prod.fst).Nodup∧∀ d ∈ X'.D,d.2=.deferred (some [])) (hr:Res P n X j E L Φ v) (hR:R L' Φ') (l:L'.Sublist L) (hΦ:A9 Φ Φ')
  (i:St n X' E L Φ a w):LeavesInM (FW none) 0 P j a.tmps (fun e w'=>(∃ v,e=.returned v)∧∃ L' Φ',R L' Φ'∧cC X L' Φ' w') a.defers .returning w:=by
 have k:X'.marks=X'.D.map (C1t ·.1):=by rw [hX];unfold Cx.marks Cx.wd;simp only [b]
 rw [i.defers,k]
 refine B2e (X:=X) (L:=L) (Φ:=Φ) X'.D c.1 c.2 w (hX▸i.world) fun w' f=>⟨v,?_,⟨v,rfl⟩,L',Φ',hR,?_⟩
 ·rw [g] at hr
  exact hr {a with defers:=[]} w' ⟨i.size,by unfold Cx.marks Cx.wd;simp only [b];rfl,i.has,f⟩
 ·rw [g];exact (f.sub l).foll hΦ
theorem C6l {X':Cx} {f:Func} {R:Own→List Pers→Prop} {v:Value} (hX:X'=X.wd X'.D) (b:X.rho=none∧X.D=[]) (c:(X'.D.map Prod.fst).Nodup∧∀ d ∈ X'.D,d.2=.deferred (some [])) (hr:Res P n X f E L Φ v) (hR:R L' Φ') (j:L'.Sublist L) (hΦ:A9 Φ Φ') :
  JQ n X' (D7h P X f R .ret) E L Φ:=fun a w i=>D2o hX (by obtain ⟨l,k,M,r,D⟩:=X;obtain ⟨g,e⟩:=b;simp only at g e;subst g e;rfl) b.1 c hr hR j hΦ i
theorem B2a {X':Cx} {f:Func} {R:Own→List Pers→Prop} {v:Value} (hX:X'=X.wd X'.D) (b:X.rho=none∧X.D=[]) (c:(X'.D.map Prod.fst).Nodup∧∀ d ∈ X'.D,d.2=.deferred (some [])) (hr:Res P n X f E L Φ v) (hR:R L' Φ') (j:L'.Sublist L) (hΦ:A9 Φ Φ') :
  JQ n X' (D7h P X f R .normal) E L Φ:=fun a w i=>D2o hX (by obtain ⟨l,k,M,r,D⟩:=X;obtain ⟨g,e⟩:=b;simp only at g e;subst g e;rfl) b.1 c hr hR j hΦ i
theorem C0i {args:List Value} {m:Nat} (c:Nat.ble args.length m=true) {E0:bX} (hE:S6 ((List.range args.length).zip args) E0):Has {tmps:=args.toArray++Array.replicate (m - args.toArray.size) undef,defers:=[]} E0:=by
 have g:args.length≤m:=Nat.le_of_ble_eq_true c
 have d:Has {tmps:=args.toArray++Array.replicate (m - args.toArray.size) undef,defers:=[]} ((List.range args.length).zip args):=by
  intro t v e
  have h:∀ (xs:List Value) (k:Nat),((List.range' k xs.length).zip xs).lookup t=some v→k≤t∧xs[t - k]?=some v:=by
   intro xs
   induction xs with
   | nil=>intro k a;simp at a
   | cons y ys ih =>
    intro k a
    rw [List.length_cons,List.range'_succ,List.zip_cons_cons] at a
    by_cases ht:t=k
    ·subst ht;simp [List.lookup] at a;simp [a]
    ·have:(t == k)=false:=by simpa using ht
     simp only [List.lookup,this] at a
     obtain ⟨d,b⟩:=ih (k+1) a
     refine ⟨by omega,?_⟩
     rw [show t - k=(t - (k+1))+1 by omega,List.getElem?_cons_succ]
     exact b
  rw [List.range_eq_range'] at e
  obtain ⟨_,b⟩:=h args 0 e
  have f:args[t]?=some v:=by simpa using b
  have:=(List.getElem?_eq_some_iff.1 f).1
  rw [Array.getElem?_append_left (by simpa using this)]
  simpa using f
 exact d.weaken (S3 hE)
theorem E3w {gf:FuncId} {g:Func} {c:Code} {a:List Value} {Φ0:List Pers} {β:Type} {enc:β→Value} {xs:List β}
  (o : P.funcs[gf]? = some g) (k : g.body = some c) (m : (g.name == "runtime.NumGoroutine") = false) (r : g.ntmps = n) (j : Nat.ble (a.length + 1) n = true) (E0 : Nat → bX) (hE : ∀ l, S6 ((List.range (a.length + 1)).zip (.func (.yield l) #[] #[] :: a)) (E0 l))
  (h:∀ (X:Cx) (l:Nat) (I:List β→Own→List Pers→Prop) (Ix:Own→List Pers→Prop) (L:Own) (Φ:List Pers),X.M=L.map Prod.fst→X.rho=none→X.D=[]→I xs L Φ →
   (∀ x rest L Φ,I (x::rest) L Φ→B9v P l (enc x) L Φ fun b L' Φ'=>if b then I rest L' Φ' else Ix L' Φ')→J P n X c (D7h P X g fun L' Φ'=>I [] L' Φ'∨Ix L' Φ') (E0 l) (L++[]) (Φ0++Φ)):C8k P gf a Φ0 enc xs:=by
 refine ⟨⟨by simp [o,k,m]⟩,fun l w p I Ix L Φ hI hΦ0 hΦ hs ho hy=>?_⟩
 have f:(#[.func (.yield l) #[] #[]]++a.toArray:Array Value)=(Value.func (.yield l) #[] #[]::a).toArray:=by simp
 rw [f]
 simp only [List.append_nil] at h
 refine (callsIn_wide (n:=0)).1 (callsIn_of_wp_marks (F:=Fence.wide) o k trivial (h (cx w p (L.map Prod.fst)) l I Ix L Φ rfl rfl rfl hI hy _ w ⟨?_,rfl,?_,p,⟨?_,hs,Hp.le_refl p,fun b k=>.inl k,ho,fun e u=>.inl (List.mem_map_of_mem u),KeptBut.refl _ w,fun d t=>(by cases t)⟩⟩))
 ·have s:a.length+1≤n:=Nat.le_of_ble_eq_true j
  simp [r];omega
 ·rw [r]
  exact C0i (args:=Value.func (.yield l) #[] #[]::a) j (hE l)
 ·intro q i
  rcases List.mem_append.1 i with i | i
  ·exact hΦ0 q i
  ·exact hΦ q i
theorem C5r {o:Oper} {c:Call} {z:Operand} {l:Nat} {v:Value} {L0 L2:Own} {Φ0:List Pers} {post:Bool→Own→List Pers→Prop} (hy:B9v P l v L0 Φ0 post)
  (y:o.op=.call c) (r:c.callee=.value z) (hf:ev E z=some (.func (.yield l) #[] #[])) (j:c.args.toList.mapM (ev E)=some [v]) (hΦ:A9 Φ Φ0) (s:L.Perm (L0++L2)) :
  Tri P n X o E L Φ {σ:Bool×Own×List Pers // post σ.1 σ.2.1 σ.2.2} (fun σ=>.bool σ.1.1) (fun σ=>σ.1.2.1++L2) (fun σ=>σ.1.2.2++Φ):=by
 intro a w K Q t hk
 obtain ⟨p,m⟩:=t.world
 have q:A2i (L0++L2) p w:=⟨fun e he=>m.own.1 e (s.symm.subset he),(s.map Prod.fst).nodup_iff.1 m.own.2⟩
 obtain ⟨x,i,d,g,u,f⟩:=hy w p (hΦ p m.facts) m.sub (q.sub (List.sublist_append_left _ _))
 have hr:(execOp a.eval o).run P w=.ok (.round l x i d g) w:=by
  simp [execOp,y,resolve,r,C3 t.has hf,Deferred.ofValue,A9z t.has j,invoke,u]
 refine ⟨fun _ _=>trivial,?_⟩
 rw [Oper.semAt_eq _ _ _ (fun c r=>by rw [y] at r;cases r),hr]
 refine ⟨A8f,?_⟩
 have hR:RoundIn (FW X.rho) 0 P l x i d g w _:=f
 refine hR.mono fun e w' hx=>?_
 obtain ⟨b,L',Φ',rfl,k,hw⟩:=hx
 exact hk ⟨(b,L',Φ'),k⟩ w' (cC.call m s hw)
end
section
variable {P:Program} {n:Nat} {X:Cx} {K:Act→World→Prop} {Q:Exit→Act→World→Prop} {E E':bX} {L L':Own} {Φ Φ':List Pers}
theorem cC.reput {w:World} {d:Nat} {o o':Obj} {ds:List (Nat×Obj)} (j:d ∉ ds.map Prod.fst) (h:cC (X.wd ((d,o)::ds)) L Φ w):cC (X.wd ((d,o')::ds)) L Φ (w.putObj d o'):=by
 have x:=cC.take j o' h
 obtain ⟨s,a⟩:=h
 obtain ⟨t,n,m,c⟩:=a.res (d,o) (List.mem_cons_self ..)
 have g:=(Array.getElem?_eq_some_iff.1 t).1
 refine ⟨s,⟨a.facts,fun k u e=>?_,a.le,a.dom,⟨fun e i=>⟨?_,(a.own.1 e i).2⟩,a.own.2⟩,a.may,⟨a.kept.os,a.kept.tape,a.kept.output,?_,fun k p q=>?_⟩,fun l b=>?_⟩⟩
 ·have:k≠d:=fun f=>by subst f;rw [n] at e;cases e
  rw [World.putObj_heap_other this];exact a.sub k u e
 ·rw [World.putObj_heap_other (m e i)];exact (a.own.1 e i).1
 ·rw [World.putObj_size];exact a.kept.size
 ·have:k≠d:=fun f=>by
   subst f
   rcases c with c | c
   ·have:X.w0.heap.size≤k:=c
    have:k<X.w0.heap.size:=p
    omega
   ·exact q c
  rw [World.putObj_heap_other this];exact a.kept.block k p q
 ·rcases List.mem_cons.1 b with rfl | b
  ·exact ⟨World.putObj_heap_same g,n,m,c⟩
  ·have:l.1≠d:=fun f=>j (f▸List.mem_map_of_mem b)
   obtain ⟨r,v⟩:=a.res l (List.mem_cons_of_mem _ b)
   exact ⟨by rw [World.putObj_heap_other this];exact r,v⟩
theorem cC.unres {w:World} {j:World} {i:Hp} {M:List Nat} {r:Option Nat} {ds:List (Nat×Obj)} (l:(ds.map Prod.fst).Nodup) (h:cC ⟨j,i,M,r,ds⟩ L Φ w):cC (cx j i M) (ds++L) Φ w:=by
 obtain ⟨p,a⟩:=h
 refine ⟨p,⟨a.facts,a.sub,a.le,a.dom,⟨fun e f=>?_,?_⟩,fun e f=>?_,⟨a.kept.os,a.kept.tape,a.kept.output,a.kept.size,a.kept.block⟩,fun d g=>by cases g⟩⟩
 ·rcases List.mem_append.1 f with f | f
  ·exact ⟨(a.res e f).1,(a.res e f).2.1⟩
  ·exact a.own.1 e f
 ·rw [List.map_append,List.nodup_append]
  refine ⟨l,a.own.2,fun b k c m=>?_⟩
  obtain ⟨d,g,rfl⟩:=List.mem_map.1 k
  obtain ⟨e,f,rfl⟩:=List.mem_map.1 m
  exact fun h=>(a.res d g).2.2.1 e f h.symm
 ·rcases List.mem_append.1 f with f | f
  ·exact (a.res e f).2.2.2.symm
  ·exact a.may e f
theorem cC.reserve {w:World} {d:Nat} {o:Obj} (h:cC X ((d,o)::L) Φ w):cC (X.wd ((d,o)::X.D)) L Φ w:=by
 obtain ⟨p,a⟩:=h
 refine ⟨p,⟨a.facts,a.sub,a.le,a.dom,a.own.sub (List.sublist_cons_self _ _),fun e c=>a.may e (List.mem_cons_of_mem _ c),⟨a.kept.os,a.kept.tape,a.kept.output,a.kept.size,a.kept.block⟩,fun e c=>?_⟩⟩
 rcases List.mem_cons.1 c with rfl | c
 ·have g:=a.own.1 (d,o) (List.mem_cons_self ..)
  refine ⟨g.1,g.2,fun f b hE=>?_,(a.may (d,o) (List.mem_cons_self ..)).symm⟩
  have:=a.own.2
  rw [List.map_cons,List.nodup_cons] at this
  exact this.1 (hE▸List.mem_map_of_mem b)
 ·obtain ⟨k,j,l,i⟩:=a.res e c
  exact ⟨k,j,fun f b=>l f (List.mem_cons_of_mem _ b),i⟩
def RP (Y:Cx) {β σ:Type} (I:List β→σ→Prop) (Jx:Code→σ→Prop) (Lk:σ→Own) (Φk:σ→List Pers) (rest:List β):Exit→Act→World→Prop
 | .normal,_,w=>∃ s,I rest s∧cC Y (Lk s) (Φk s) w
 | .ret,_,w=>∃ s,Jx .ret s∧cC Y (Lk s) (Φk s) w
 | .exit id,_,w=>∃ s,Jx (.exit id) s∧cC Y (Lk s) (Φk s) w
 | _,_,_=>False
theorem E9b {g:Operand} {p:Nat} {ps:Array Tmp} {assign body:Code} {gf:FuncId} {lb:List Value} {Φ0:List Pers} {β:Type} {enc:β→Value} {xs:List β}
  (aj:X.rho=none) (hg:ev E g=some (.func (.func gf) #[] lb.toArray)) (an:C8k P gf lb Φ0 enc xs) (hΦ0:A9 Φ Φ0) (b1:ps=#[p]) (b3:X6 n (some p)=true)
  {σ:Type} (I:List β→σ→Prop) (Jx:Code→σ→Prop) (Lk:σ→Own) (Φk:σ→List Pers) (s0:σ) (h0:I xs s0) (hL:(Lk s0).Sublist L) (hΦ:A9 Φ (Φk s0))
  (a6:∀ x rest s,I (x::rest) s→∀ (Y Y':Cx) (K:Act→World→Prop),Y.rho.isSome=true →
   (∀ E L Φ,J P n Y' body (RP Y' I Jx Lk Φk rest) E L Φ→JQ n Y K E L Φ)→J P n Y assign (Exit.then K (fun _ _ _=>False)) (bX.put E (some p) (enc x)) (Lk s) (Φk s))
  (a8:∀ d s,d ∉ X.D.map Prod.fst→I [] s→JQ n (X.wd ((d,.deferred (some []))::X.D)) (Q .normal) E (Lk s) (Φk s))
  (ai:∀ d c s,d ∉ X.D.map Prod.fst→Jx c s→J P n (X.wd ((d,.deferred (some []))::X.D)) c Q E (Lk s) (Φk s)):J P n X (.rangeFunc g ps assign body) Q E L Φ:=by
 intro a w hs
 subst b1
 rw [aj]
 refine wpIn_rangeFunc ?_
 intro fn _
 obtain ⟨f,hrec⟩:∃ f:LoopState→Option Code→Loop,f=fun u y=>{state:=u,pending:=y,fn,tmps:=a.tmps,params:=#[p],assign,body,defers:=w.heap.size}:=⟨_,rfl⟩
 have he:=run_enterLoop_outer (P:=P) (w:=w) fn a.tmps #[p] assign body
 rw [show ({state:=.ready,pending:=none,fn:=fn,tmps:=a.tmps,params:=#[p],assign:=assign,body:=body,defers:=w.heap.size}:Loop)=f .ready none by rw [hrec]] at he
 obtain ⟨w1,hw1⟩:∃ w1,(w.alloc (.deferred (some []))).alloc (.loop (f .ready none))=w1:=⟨_,rfl⟩
 rw [hw1] at he
 refine ⟨w.heap.size+1,[C1t w.heap.size],w1,{target:=.fn (.func gf) lb.toArray,args:=#[.func (.yield (w.heap.size+1)) #[] #[]]},w1,gf,
  #[.func (.yield (w.heap.size+1)) #[] #[]]++lb.toArray,w1,he,?_,fun _ _=>trivial,?_,A8f,?_⟩
 ·simp only [resolve,C3 hs.has hg]
  simp [go_sem]
 ·simp [invoke,A1y an.1]
 ·-- the caller's state,the two blocks laid
  have ad:cC X ((w.heap.size+1,.loop (f .ready none))::(w.heap.size,.deferred (some []))::Lk s0) Φ w1:=by
   have h1:=(hs.world.sub hL).alloc (.deferred (some []))
   have h2:=h1.alloc (.loop (f .ready none))
   rw [World.size_alloc,hw1] at h2
   exact h2
  have au:w.heap.size ∉ X.D.map Prod.fst:=fun hm=>by
   obtain ⟨e,ac,hE⟩:=List.mem_map.1 hm
   obtain ⟨q,z⟩:=hs.world
   have:=(Array.getElem?_eq_some_iff.1 (z.res e ac).1).1
   omega
  obtain ⟨q,z⟩:=ad
  have bc:w.heap.size+1<w1.heap.size:=(Array.getElem?_eq_some_iff.1 (z.own.1 _ (List.mem_cons_self ..)).1).1
  let It:List β→Own→List Pers→Prop:=fun rem L Φ=>∃ s,I rem s∧L=(w.heap.size+1,.loop (f .ready none))::(w.heap.size,.deferred (some []))::Lk s∧Φ=Φk s
  let Itx:Own→List Pers→Prop:=fun L Φ=>∃ c s,Jx c s∧L=(w.heap.size+1,.loop (f .done (some c)))::(w.heap.size,.deferred (some []))::Lk s∧Φ=Φk s
  have ah:=an.2 (w.heap.size+1) w1 q It Itx _ (Φk s0) ⟨s0,h0,rfl,rfl⟩ (hΦ0 q z.facts) (hΦ q z.facts) z.sub z.own ?_
  ·refine B5v (ah.mono fun e w' hx=>?_)
   obtain ⟨⟨v,rfl⟩,L',Φ',hI,ay⟩:=hx
   have aq:=cC.call (L0:=(w.heap.size+1,.loop (f .ready none))::(w.heap.size,.deferred (some []))::Lk s0) (L2:=[]) z oom ay
   rw [List.append_nil] at aq
   have r:∀ (u:LoopState) (y:Option Code) (s:σ),u≠.busy→L'=(w.heap.size+1,.loop (f u y))::(w.heap.size,.deferred (some []))::Lk s→Φ'=Φk s →
     (Instr.endLoop (w.heap.size+1)).run P w'=.ok y (w'.putObj (w.heap.size+1) (.loop {f u y with state:=.exhausted})) ∧
     St n (X.wd ((w.heap.size,.deferred (some []))::X.D)) E (Lk s) (Φk s) {a with defers:=[C1t w.heap.size]++a.defers} (w'.putObj (w.heap.size+1) (.loop {f u y with state:=.exhausted})):=fun u y s ad l hΦ'=>by
    subst l hΦ'
    obtain ⟨q2,hq2⟩:=aq
    have hl:=(hq2.own.1 _ (List.mem_cons_self ..)).1
    simp only at hl
    have i:=run_endLoop (P:=P) hl (by rw [hrec];exact ad)
    rw [hrec] at i ⊢
    refine ⟨i,⟨hs.size,?_,hs.has,?_⟩⟩
    ·show [C1t w.heap.size]++a.defers=_
     rw [hs.defers]
     unfold Cx.marks Cx.wd
     simp only [aj];rfl
    ·have h3:cC X ((w.heap.size,.deferred (some []))::Lk s) (Φk s++Φ) (w'.putObj (w.heap.size+1) (.loop {f u y with state:=.exhausted})):=by
      have h4:=cC.reserve (X:=X) ⟨q2,hq2⟩
      have a4:=hq2.own.2
      have h5:=cC.take (X:=X) (d:=(w.heap.size+1,.loop (f u y))) (ds:=X.D) ?_ (.loop {f u y with state:=.exhausted}) h4
      ·exact h5
      ·intro hm
       obtain ⟨e,ac,hE⟩:=List.mem_map.1 hm
       obtain ⟨q3,hq3⟩:=hs.world
       have:=(Array.getElem?_eq_some_iff.1 (hq3.res e ac).1).1
       simp only at hE;omega
     rw [hrec] at h3
     exact h3.reserve.foll fun p hp q z=>hp q (List.mem_append_left _ z)
   rcases hI with ⟨s,hI,l,hΦ'⟩ | ⟨c,s,hI,l,hΦ'⟩
   ·obtain ⟨i,aa⟩:=r .ready none s oom l hΦ'
    exact ⟨none,_,i,a8 _ s au hI _ _ aa⟩
   ·obtain ⟨i,aa⟩:=r .done (some c) s oom l hΦ'
    have h6:=ai _ c s au hI _ _ aa
    have:(X.wd ((w.heap.size,.deferred (some []))::X.D)).rho=none:=aj
    rw [this] at h6
    exact ⟨some c,_,i,h6⟩
  ·-- one round
   rintro x rest L0 Φ0 ⟨s,hIs,rfl,rfl⟩ wr hr hfr hsr hor
   have hl:=(hor.1 _ (List.mem_cons_self ..)).1
   simp only at hl
   have hy:=run_yield (P:=P) (args:=#[enc x]) hl (by rw [hrec];rfl)
   rw [hrec] at hy
   refine ⟨_,_,assign,body,hy,roundIn_of_wpIn trivial ?_⟩
   have b4:w.heap.size+1≠w.heap.size:=by omega
   let M0:List Nat:=(w.heap.size+1)::w.heap.size::(Lk s).map Prod.fst
   let Y:Cx:=⟨wr,hr,M0,some (w.heap.size+1),[(w.heap.size+1,.loop (f .ready none)),(w.heap.size,.deferred (some []))]⟩
   let Y':Cx:=⟨wr,hr,M0,some (w.heap.size+1),[(w.heap.size+1,.loop {f .ready none with state:=.busy}),(w.heap.size,.deferred (some []))]⟩
   have hb:=a6 x rest s hIs Y Y' (fun a₁ w₁=>∃ w₂,(Instr.beginRound (w.heap.size+1)).run P w₁=.ok () w₂∧body.wpIn (Fence.wide.inRound (w.heap.size+1)) 0 P
    (roundPost P (w.heap.size+1) fun e w'=>∃ b L' Φ',e=.returned (.bool b)∧(if b then It rest L' Φ' else Itx L' Φ')∧cC (cx wr hr M0) L' Φ' w') a₁ w₂) rfl ?_
   ·refine hb _ wr ⟨?_,rfl,?_,hr,⟨hfr,hsr,Hp.le_refl hr,fun b hb=>.inl hb,hor.sub ((List.sublist_cons_self _ _).trans (List.sublist_cons_self _ _)),fun e he=>.inl ?_,KeptBut.refl _ _,fun d hd=>?_⟩⟩
    ·have:a.tmps.size=n:=hs.size
     simp [this]
    ·have:=hs.has.put (d:=p) (by rw [hs.size];simpa [X6,Nat.blt_eq] using b3) (enc x)
     exact fun t v e=>by simpa [Act.put] using this t v e
    ·exact List.mem_cons_of_mem _ (List.mem_cons_of_mem _ (List.mem_map_of_mem he))
    ·have a4:=hor.2
     simp only [List.map_cons,List.nodup_cons,List.mem_cons,not_or] at a4
     simp only [Y,List.mem_cons,List.not_mem_nil,or_false] at hd
     rcases hd with rfl | rfl
     ·exact ⟨hl,(hor.1 _ (List.mem_cons_self ..)).2,fun e he hE=>a4.1.2 (by simp only at hE;rw [← hE];exact List.mem_map_of_mem he),.inr (by simp [Y,M0])⟩
     ·have h1:=hor.1 _ (List.mem_cons_of_mem _ (List.mem_cons_self ..))
      exact ⟨h1.1,h1.2,fun e he hE=>a4.2.1 (by simp only at hE;rw [← hE];exact List.mem_map_of_mem he),.inr (by simp [Y,M0])⟩
   ·-- the record turns to busy;the body;the record turns back
    intro E1 L1 Φ1 hJ a1 w2 hs1
    obtain ⟨q1,hq1⟩:=hs1.world
    have ar:=(hq1.res (w.heap.size+1,.loop (f .ready none)) (by simp [Y])).1
    simp only at ar
    refine ⟨_,run_beginRound ar (by rw [hrec]),?_⟩
    have al:cC Y' L1 Φ1 (w2.putObj (w.heap.size+1) (.loop {f .ready none with state:=.busy})):=by
     have:=cC.reput (X:=Y) (d:=w.heap.size+1) (o:=.loop (f .ready none)) (o':=.loop {f .ready none with state:=.busy}) (ds:=[(w.heap.size,.deferred (some []))]) oom hs1.world
     exact this
    have af:=hJ a1 _ ⟨hs1.size,hs1.defers,hs1.has,al⟩
    refine Code.wpIn_mono (fun e a2 w3 hp=>?_) af
    have ae:∀ (j:Option Code) (k:σ),cC Y' (Lk k) (Φk k) w3 →
      (Instr.endRound (w.heap.size+1) j).run P w3=.ok (.bool j.isNone) (w3.putObj (w.heap.size+1) (.loop (f (if j.isNone then .ready else .done) j))) ∧
      cC (cx wr hr M0) ((w.heap.size+1,.loop (f (if j.isNone then .ready else .done) j))::(w.heap.size,.deferred (some []))::Lk k) (Φk k) (w3.putObj (w.heap.size+1) (.loop (f (if j.isNone then .ready else .done) j))):=fun j k h3=>by
     obtain ⟨q3,hq3⟩:=h3
     have am:=(hq3.res (w.heap.size+1,.loop {f .ready none with state:=.busy}) (by simp [Y'])).1
     simp only at am
     have i:=run_endRound (P:=P) j am
     refine ⟨by rw [hrec] at i ⊢;exact i,?_⟩
     have h4:=cC.reput (X:=Y') (d:=w.heap.size+1) (o:=.loop {f .ready none with state:=.busy}) (o':=.loop (f (if j.isNone then .ready else .done) j)) (ds:=[(w.heap.size,.deferred (some []))]) oom ⟨q3,hq3⟩
     exact cC.unres oom h4
    cases e with
    | normal =>
     obtain ⟨k,m,h3⟩:=hp
     obtain ⟨i,h4⟩:=ae none k h3
     exact ⟨_,_,i,true,_,_,rfl,⟨k,m,rfl,rfl⟩,h4⟩
    | ret =>
     obtain ⟨k,m,h3⟩:=hp
     obtain ⟨i,h4⟩:=ae (some .ret) k h3
     exact ⟨_,_,i,false,_,_,rfl,⟨.ret,k,m,rfl,rfl⟩,h4⟩
    | exit id =>
     obtain ⟨k,m,h3⟩:=hp
     obtain ⟨i,h4⟩:=ae (some (.exit id)) k h3
     exact ⟨_,_,i,false,_,_,rfl,⟨.exit id,k,m,rfl,rfl⟩,h4⟩
    | goto t=>exact hp.elim
    | panic c=>exact hp.elim
    | outgrown=>exact hp.elim
end
end Go.Fen
