import Derived.Scope
import Derived.Laws.IdiomStrings
import Derived.ArgAppend
import Derived.Deep.AppendSrc
import Derived.Deep.Upon
import Derived.Laws.MakeOwn
import Derived.Carry
import Derived.ChangeSame
import Derived.ChangeArms
import Derived.ChangeShapes
import Derived.Lib.LaidTab
import Derived.Tactics
import Derived.Tactics2
import Derived.Defers
import Derived.Recover
import Derived.Laws.Pointers
import Derived.Test.YtioaekgoceinkaaGreatDoorProg
import Derived.Lib.Builder
import Derived.Lib.UnsafeStr
import Derived.Laws.Externs
import Derived.WalkKit
import Derived.Shelf.RegionOpenPlain
import Derived.Shelf.Strconv.Itoa3
import Derived.Lib.ItoaLen
import Derived.Test.YtioaekgoceinkaaGreatDoorMA1
set_option linter.unusedVariables false
set_option linter.unusedSimpArgs false
namespace Go.Fen
open Go Go.RowKit
set_option linter.unusedSimpArgs false
set_option linter.unusedVariables false
section
variable {P:Program} {n:Nat} {X:Cx} {K:Act→World→Prop} {Q:Exit→Act→World→Prop} {E E':Env} {L L':Own} {Φ Φ':List Pers}
theorem D4n {α:Type} {f:α→List Value} {q:Option Addr} {xs:List α} {w:World} (b:StW X L Φ w) (j:Nat) (hΦ:Φ[j]?=some (sl f q xs)) (c:0<xs.length):∃ a,q=some a :=
 let ⟨_,hp⟩:=b;D4g (hp.facts _ (List.mem_of_getElem? hΦ)) c
theorem B3c {c:Array Oper} {i m:Nat} {α:Type} {f:α→List Value} {q:Option Addr} {xs:List α} (j:Nat) (hΦ:Φ[j]?=some (sl f q xs)) (o:0<xs.length) (h:∀ a,q=some a→JD P n X c i m K E L Φ):JD P n X c i m K E L Φ:=fun a e g l=>by
 by_cases hC:∃ w,StW X L Φ w
 ·obtain ⟨w,d⟩:=hC
  obtain ⟨b,k⟩:=D4n d j hΦ o
  exact h b k a e g l
 ·exact A8n (fun w d=>hC ⟨w,d⟩) _ _
theorem D9g {g:Array Oper} {e:Nat} {c:Array Bool} {d:A0z} {Φs:List Pers} {α:Type} {f:α→List Value} {q:Option Addr} {xs:List α} (j:Nat) (hΦ:Φ[j]?=some (sl f q xs)) (s:0<xs.length) (h:∀ a,q=some a→JH P n X g e c K d Φs E L Φ):JH P n X g e c K d Φs E L Φ :=
 ⟨fun m o r k p a w i=>by
  obtain ⟨b,l⟩:=D4n i.world j hΦ s
  exact (h b l).go m o r k p a w i⟩
theorem K2 {o:Oper} {T e sz:Nat} {x y:Operand} {q:Option Addr} {a:Addr} {b cap:Nat} {m:Int} (i:SlTy P T e sz) (c:o.op=.indexAddr T x y)
  (d:ev E x=some (.slice q b cap)) (g:q=some a) (h:ev E y=some (.int .i64 m)) (k:Nat) (f:m=k) (j:k<b):G7 P X o E L Φ (.pointer (some (a.add (k * sz)))):=by
 subst g;exact D7s i c d h k f j
theorem N0 {α:Type} {c:α→List Value} {sz:Nat} {q:Option Addr} {a:Addr} {xs:List α} (b:q=some a) (e:∀ x,(c x).length=sz) (j:Nat) (h:Φ[j]?=some (sl c q xs)) {k:Nat} {v:α} (d:xs[k]?=some v):R0 Φ (at_ (a.add (k * sz)) (c v)):=by
 subst b;exact E3p e j h d
theorem StW.sealed {α:Type} {c:α→List Value} {T:Nat} {r:VR} {xs:List α} {pre post:Own} {w:World} {sz:Nat} (d:VOk sz xs.length r) (h:StW X (pre++(vo c T r xs++post)) Φ w):StW X (pre++post) (sl c (va r.q) xs::Φ) w:=by
 unfold vo at h
 cases a:r.q with
 | none =>
  rw [a] at h
  unfold VOk at d
  rw [a] at d
  simp only [List.nil_append] at h
  refine h.fact _ fun p _=>?_
  have:xs=[]:=List.length_eq_zero_iff.1 d.1
  rw [this];rfl
 | some b =>
  rw [a] at h
  simp only [List.cons_append,List.nil_append] at h
  have e:(pre++bx b (xs.flatMap c++r.j) T::post).Perm (bx b (xs.flatMap c++r.j) T::(pre++post)):=List.perm_middle
  have k:=(h.perm e).freeze (i:=0) rfl
  refine StW.foll (Φ:=blk b (.cells (xs.flatMap c++r.j).toArray T (0,0))::Φ) k fun p e q a=>?_
  rcases List.mem_cons.1 a with rfl | a
  ·have g:p b=some (.cells (xs.flatMap c++r.j).toArray T (0,0)):=e (blk b _) oom
   refine .inr ⟨rfl,_,_,_,g,fun j v f=>?_⟩
   simp only [Nat.zero_add,List.getElem?_toArray]
   rw [List.getElem?_append_left (List.getElem?_eq_some_iff.1 f).1];exact f
  ·exact e q (by simp [a])
theorem A4k {b:Array Oper} {i m:Nat} {α:Type} {c:α→List Value} {T:Nat} {r:VR} {xs:List α} (pre post:Own) {sz:Nat} (e:VOk sz xs.length r) (f:L=pre++(vo c T r xs++post)) (h:JI P n X b i m K Q E (pre++post) (sl c (va r.q) xs::Φ)):JI P n X b i m K Q E L Φ :=
 fun a w d=>h a w ⟨d.size,d.defers,d.has,by have:=d.world;rw [f] at this;exact this.sealed e⟩
theorem E0j {α:Type} {c:α→List Value} {T:Nat} {r:VR} {xs:List α} (pre post:Own) {sz:Nat} (d:VOk sz xs.length r) (e:L=pre++(vo c T r xs++post)) (h:JQ n X K E (pre++post) (sl c (va r.q) xs::Φ)):JQ n X K E L Φ :=
 fun a w b=>h a w ⟨b.size,b.defers,b.has,by have:=b.world;rw [e] at this;exact this.sealed d⟩
theorem B0.dropT (k:Nat) (h:Φ.drop k=Φ'):B0 Φ Φ':=fun p b q a=>b q (by rw [← h] at a;exact (List.drop_sublist k Φ).subset a)
theorem B2m {d:Array Oper} {f:Nat} {b:Array Bool} {e:A0z} {Φs:List Pers} (i:Nat) {o:Oper} {α:Type} {val:α→Value} {L':α→Own} {Φ':α→List Pers} (Lh:Own) (c:Array Bool) (j:d[i]?=some o) (q:B0l d o E=some true) (r:X1 n o.dst=true)
  (t:b.setIfInBounds i true=c) (k:b.setIfInBounds i true=c) (p:e.at c=Lh) (s:Tri P n X o E L Φ α val L' Φ') (g:∀ x,Lh.Sublist (L' x)) (hΦ':∀ x,B0 (Φ' x) Φs) (h:∀ x,JH P n X d f c K e Φs (Env.put E o.dst (val x)) (L' x) (Φ' x)) :
  ∀ a w,St n X E L Φ a w→A4i d=true→Region.noSelect d=true→b.size=d.size→wpOpIn (FW X.rho) 0 P d (oN K) i (fun m w'=>((b.setIfInBounds i true).size=d.size∧StW X (e.at (b.setIfInBounds i true)) Φs w')∧AH X.rho P d (oN K) (fun l w=>l.size=d.size∧StW X (e.at l) Φs w) f (b.setIfInBounds i true) m w') a w:=by
 subst t p
 exact D7i i j q r s g hΦ' h
theorem D6s {c:Array Oper} {i m:Nat} (t:Nat) {g b:Bool} (e:E.lookup t=some (.bool g)) (f:g=b) (h:JI P n X c i m K Q ((t,.bool b)::E) L Φ):JI P n X c i m K Q E L Φ:=fun a w d=>h a w ⟨d.size,d.defers,d.has.lit e f,d.world⟩
theorem StW.fix {w:World} {i b T:Nat} {cs:List Value} (e:L[i]?=some (bx b cs T)) (h:StW X L Φ w):StW X (L.eraseIdx i) (at_ ⟨b,0,none⟩ cs::Φ) w :=
 (h.freeze e).foll fun p c q a=>by
  rcases List.mem_cons.1 a with rfl | a
  ·have f:p b=some (.cells cs.toArray T (0,0)):=c (blk b (.cells cs.toArray T (0,0))) oom
   exact .inr ⟨rfl,_,_,_,f,fun j v d=>by simpa using d⟩
  ·exact c q (by simp [a])
theorem A1s {c:Array Oper} {i m:Nat} (k:Nat) {b T:Nat} {cs:List Value} (e:L[k]?=some (bx b cs T)) (h:JI P n X c i m K Q E (L.eraseIdx k) (at_ ⟨b,0,none⟩ cs::Φ)):JI P n X c i m K Q E L Φ :=
 fun a w d=>h a w ⟨d.size,d.defers,d.has,d.world.fix e⟩
theorem C8 {o:Oper} {c:Call} {e:Operand} {k:FuncId} {first cap:Array Value} {f args:List Value} {L0 L2:Own} {Φ0:List Pers} {α:Type} {val:α→Value} {L1:α→Own} {Φ1:α→List Pers}
  (b:Con P k args L0 Φ0 α val L1 Φ1) (g:o.op=.call c) (i:c.callee=.value e) (j:ev E e=some (.func (.func k) first cap)) (a:c.args.toList.mapM (ev E)=some f) (m:(first++f.toArray++cap).toList=args)
  (hΦ:B0 Φ Φ0) (l:L.Perm (L0++L2)) (L':α→Own) (d:∀ x,L1 x++L2=L' x):Tri P n X o E L Φ α val L' (fun x=>Φ1 x++Φ):=by
 obtain rfl:(fun x=>L1 x++L2)=L':=funext d
 exact C9q b g i j a m hΦ l
theorem A5d {b:Frame} {a:Act} {k:List Item} {cs:List Frame} {w:World} {c:Code}:step P (lone (b.atR a (.code (.scope c)::k)) cs w)=.next (lone (b.atR a (.code c::.inScope c::k)) cs w) :=
 step_lone_go (by simp [stepG,stepG.exec,Frame.atR])
theorem C6p {b:Frame} {a:Act} {k:List Item} {cs:List Frame} {w:World} {c:Code}:step P (lone (b.atR a (.inScope c::k)) cs w)=.next (lone (b.atR a k) cs w) :=
 step_lone_go (by simp [stepG,stepG.exec,Frame.atR])
theorem D2k {F:Fence} {m:Nat} {c:Code} {a:Act} {w:World} (h:c.wpIn F m P (Exit.noGoto Q) a w):(Code.scope c).wpIn F m P Q a w:=by
 intro b k cs n q hr
 have f:(lone (b.atR a (.code (.scope c)::k)) cs w).fenced P F:=fenced_calm q hr rfl
 obtain ⟨e,i,j,g,d⟩:=h b (.inScope c::k) cs n q hr
 cases e with
 | normal=>exact ⟨.normal,i,j,g,.head f A5d (StepsIn.trans d (.one (fenced_calm q hr rfl) C6p))⟩
 | exit id =>
  have r:exitTo id (.inScope c::k)=exitTo id k:=by simp [exitTo]
  exact ⟨.exit id,i,j,g,fun s o=>.head f A5d (d.1 s (by rw [r];exact o)),
   fun p o=>let ⟨k₁,h1,h2⟩:=d.2 p (by rw [r];exact o);⟨k₁,h1,.head f A5d h2⟩⟩
 | goto l=>exact g.elim
 | ret=>exact ⟨_,i,j,g,.of_steps (.one f A5d) d⟩
 | panic ch=>exact ⟨_,i,j,g,.of_steps (.one f A5d) d⟩
 | outgrown=>exact ⟨_,i,j,g,.of_steps (.one f A5d) d⟩
theorem D3t {c:Code} (h:J P n X c (Exit.noGoto Q) E L Φ):J P n X (.scope c) Q E L Φ:=fun a w b=>D2k (h a w b)
theorem D3r {l:Nat} (h:JQ n X (Q .normal) E L Φ):J P n X (.label l) Q E L Φ:=fun a w b=>wpIn_label (h a w b)
theorem B5u {o:Oper} {T:TypeId} {x:Operand} {a c:Int} (b:o.op=.unOp .neg T x) (d:ev E x=some (.int .i64 a)) (e:-a=c) (h:-9223372036854775808≤c∧c≤9223372036854775807):G7 P X o E L Φ (.int .i64 c) :=
 .pure (by simp only [B2v,b,d];rw [show (0 - a:Int)=c by omega,A1b (k:=.i64) h.1 h.2])
theorem A8l {b:Array Oper} {i m:Nat} (hΦ:B0 Φ Φ') (h:JI P n X b i m K Q E L Φ'):JI P n X b i m K Q E L Φ:=fun a w c=>h a w ⟨c.size,c.defers,c.has,c.world.foll hΦ⟩
theorem B0.yield (a:List Pers) {A B:List Pers}:B0 (A++(a++B)) (a++A):=fun p b q c=>b q (by
 rcases List.mem_append.1 c with h | h
 ·exact List.mem_append_right _ (List.mem_append_left _ h)
 ·exact List.mem_append_left _ h)
theorem D0t {α:Type} {l:List α}:∀ {cs:List (List α)},l ∈ cs→l.Sublist cs.flatten
 | [],h=>by cases h
 | c::cs,h=>by
  rw [List.flatten_cons]
  rcases List.mem_cons.1 h with rfl | h
  ·exact List.sublist_append_left _ _
  ·exact (D0t h).trans (List.sublist_append_right _ _)
theorem mcT (cs:List Fen.Own) (i:Nat) (a:L=cs.flatten) (b:cs[i]?=some L'):L'.Sublist L:=by
 subst a;exact D0t (List.mem_of_getElem? b)
theorem A9e {Y:Cx} {β σ:Type} {I:List β→σ→Prop} {Jx:Code→σ→Prop} {Lk:σ→Own} {Φk:σ→List Pers} {rest:List β} (s:σ) (b:I rest s) (d:(Lk s).Sublist L) (hΦ:B0 Φ (Φk s)):JQ n Y (RP Y I Jx Lk Φk rest .normal) E L Φ :=
 fun a w c=>⟨s,b,(c.world.sub d).foll hΦ⟩
theorem E2h {Y:Cx} {β σ:Type} {I:List β→σ→Prop} {Jx:Code→σ→Prop} {Lk:σ→Own} {Φk:σ→List Pers} {rest:List β} (s:σ) (b:Jx .ret s) (d:(Lk s).Sublist L) (hΦ:B0 Φ (Φk s)):JQ n Y (RP Y I Jx Lk Φk rest .ret) E L Φ :=
 fun a w c=>⟨s,b,(c.world.sub d).foll hΦ⟩
end
end Go.Fen
set_option linter.unusedVariables false
set_option linter.unusedSimpArgs false
namespace Go.Fen
open Go Go.RowKit
set_option linter.unusedSimpArgs false
set_option linter.unusedVariables false
section
variable {P:Program} {n:Nat} {X:Cx} {K:Act→World→Prop} {Q:Exit→Act→World→Prop} {E E':Env} {L L':Own} {Φ Φ':List Pers}
def V4 (ds:List (Nat×Obj)):Prop:=(ds.map Prod.fst).Nodup∧∀ d ∈ ds,d.2=.deferred (some [])
theorem V4.nil:V4 []:=⟨List.nodup_nil,fun d a=>by cases a⟩
theorem V4.cons {d:Nat} {ds:List (Nat×Obj)} (h:V4 ds) (b:d ∉ ds.map Prod.fst):V4 ((d,.deferred (some []))::ds) :=
 ⟨by rw [List.map_cons,List.nodup_cons];exact ⟨b,h.1⟩,fun e a=>by
  rcases List.mem_cons.1 a with rfl | a
  ·rfl
  ·exact h.2 e a⟩
end
end Go.Fen
set_option linter.unusedVariables false
set_option linter.unusedSimpArgs false
namespace Go.Fen
open Go Go.RowKit
set_option linter.unusedSimpArgs false
set_option linter.unusedVariables false
def N1 (s:Slc):List Value:=[.slice s.q s.n s.k]
def I1 {α:Type} (c:α→List Value) (rs:List Slc) (xss:List (List α)):Pers:=⟨fun h=>∀ (i:Nat) r xs,rs[i]?=some r→xss[i]?=some xs→(sl c r.q xs).p h,fun {h h'} hl hp i r xs h1 h2=>(sl c r.q xs).mono hl (hp i r xs h1 h2)⟩
def D5 {α:Type} (rs:List Slc) (xss:List (List α)):Prop:=rs.length=xss.length∧∀ (i:Nat) r xs,rs[i]?=some r→xss[i]?=some xs→r.n=xs.length∧r.n≤r.k∧xs.length≤9223372036854775807
section
variable {P:Program} {n:Nat} {X:Cx} {K:Act→World→Prop} {Q:Exit→Act→World→Prop} {E E':Env} {L L':Own} {Φ Φ':List Pers}
theorem D9w {α:Type} {c:α→List Value} {rs:List Slc} {xss:List (List α)} (j:Nat) (h:Φ[j]?=some (I1 c rs xss)) {i:Nat} {r:Slc} {xs:List α} (hr:rs[i]?=some r) (b:xss[i]?=some xs):R0 Φ (sl c r.q xs) :=
 fun p a=>a _ (List.mem_of_getElem? h) i r xs hr b
theorem P9 (c:L.Perm L') (h:JQ n X K E L' Φ):JQ n X K E L Φ:=fun a w b=>h a w ⟨b.size,b.defers,b.has,b.world.perm c⟩
theorem B8q {c:Code} {q:Pers} (a:R0 Φ q) (h:J P n X c Q E L (q::Φ)):J P n X c Q E L Φ:=E0o q a h
theorem D7 {a:Array Oper} {i m:Nat} {q:Pers} (b:R0 Φ q) (h:JI P n X a i m K Q E L (q::Φ)):JI P n X a i m K Q E L Φ:=D9z q b h
theorem D7r {b:Array Oper} {i m:Nat} {q:Pers} (c:R0 Φ q) (h:JD P n X b i m K E L (q::Φ)):JD P n X b i m K E L Φ:=by
 intro a g j k
 have e:StW X L (q::Φ)=StW X L Φ:=by
  funext w
  refine propext ⟨fun d=>d.foll fun p f q c=>f q (List.mem_cons_of_mem _ c),fun d=>d.fact q c⟩
 have:=h a g j k
 rw [e] at this
 exact this
end
end Go.Fen
set_option linter.unusedVariables false
set_option linter.unusedSimpArgs false
namespace Go.Fen
open Go Go.RowKit
theorem bt {ρ:Type} {c:Bool} {a b R:ρ} (h:(bif c then a else b)=R) (d:c=true):a=R:=by rw [d] at h;exact h
theorem bf {ρ:Type} {c:Bool} {a b R:ρ} (h:(bif c then a else b)=R) (d:c=false):b=R:=by rw [d] at h;exact h
theorem gd {α:Type} {xs:List α} {k:Nat} (d:α) (h:k<xs.length):xs[k]?=some (xs.getD k d):=by
 rw [List.getElem?_eq_getElem h];simp [h]
theorem A0r {α:Type} {xs:List α} {k:Nat} (d:α) (h:k<xs.length):xs.drop k=xs.getD k d::xs.drop (k+1):=by
 rw [List.drop_eq_getElem_cons h];congr 1;simp [h]
theorem A1i {α:Type} {xs:List α} {k:Nat} (h:¬ ((k:Int)<(xs.length:Int))):xs.drop k=[]:=List.drop_eq_nil_of_le opx
section
variable {P:Program} {n:Nat} {X:Cx} {K:Act→World→Prop} {Q:Exit→Act→World→Prop} {E E':Env} {L L':Own} {Φ Φ':List Pers}
theorem D8k {x y:Code} {β:Type} (I:β→Prop) (Ei:β→Env) (Li:β→Own) (Φi:β→List Pers)
  (c:J P n X x (Exit.then (fun a w=>∃ y,I y∧St n X (Ei y) (Li y) (Φi y) a w) Q) E L Φ) (f:∀ z,I z→J P n X y Q (Ei z) (Li z) (Φi z)):J P n X (.seq x y) Q E L Φ :=
 fun a w d=>wpIn_seq (Code.wpIn_mono (fun e a w q=>by
  cases e with
  | normal=>obtain ⟨z,b,g⟩:=q;exact f z b a w g
  | _=>exact q) (c a w d))
theorem JL1 {c:Code} {β1:Type} (I:β1→Prop) (Ei:β1→Env) (Li:β1→Own) (Φi:β1→List Pers) (μ:β1→Nat) (b:β1) (i:I b) (hE:S5 E (Ei b)) (g:(Li b).Sublist L) (hΦ:B0 Φ (Φi b))
  (h:∀ b,I b→J P n X c (Exit.then (fun a w=>∃ d,I d∧μ d<μ b∧St n X (Ei d) (Li d) (Φi d) a w) Q) (Ei b) (Li b) (Φi b)):J P n X (.loop c) Q E L Φ :=
 D2v (β:=β1) (fun x=>I x) (fun x=>Ei x) (fun x=>Li x) (fun x=>Φi x) (fun x=>μ x) b i hE g hΦ fun x f a w k=>Code.wpIn_mono (fun e a w q=>by
  cases e with
  | normal=>obtain ⟨d,j,m,l⟩:=q;exact ⟨d,j,m,l⟩
  | _=>exact q) (h x f a w k)
theorem JS1 {x y:Code} {β1:Type} (I:β1→Prop) (Ei:β1→Env) (Li:β1→Own) (Φi:β1→List Pers)
  (g:J P n X x (Exit.then (fun a w=>∃ b,I b∧St n X (Ei b) (Li b) (Φi b) a w) Q) E L Φ) (i:∀ c,I c→J P n X y Q (Ei c) (Li c) (Φi c)):J P n X (.seq x y) Q E L Φ :=
 D8k (β:=β1) (fun x=>I x) (fun x=>Ei x) (fun x=>Li x) (fun x=>Φi x) (fun a w h=>Code.wpIn_mono (fun e a w q=>by
  cases e with
  | normal=>obtain ⟨b,f,j⟩:=q;exact ⟨b,f,j⟩
  | _=>exact q) (g a w h)) fun x d=>i x d
theorem JL4 {c:Code} {β1 β2 β3 β4:Type} (I:β1→β2→β3→β4→Prop) (Ei:β1→β2→β3→β4→Env) (Li:β1→β2→β3→β4→Own) (Φi:β1→β2→β3→β4→List Pers) (μ:β1→β2→β3→β4→Nat) (b:β1) (d:β2) (f:β3) (g:β4) (p:I b d f g) (hE:S5 E (Ei b d f g)) (o:(Li b d f g).Sublist L) (hΦ:B0 Φ (Φi b d f g))
  (h:∀ b d f g,I b d f g→J P n X c (Exit.then (fun a w=>∃ k j l i,I k j l i∧μ k j l i<μ b d f g∧St n X (Ei k j l i) (Li k j l i) (Φi k j l i) a w) Q) (Ei b d f g) (Li b d f g) (Φi b d f g)):J P n X (.loop c) Q E L Φ :=
 D2v (β:=β1×β2×β3×β4) (fun x=>I x.1 x.2.1 x.2.2.1 x.2.2.2) (fun x=>Ei x.1 x.2.1 x.2.2.1 x.2.2.2) (fun x=>Li x.1 x.2.1 x.2.2.1 x.2.2.2) (fun x=>Φi x.1 x.2.1 x.2.2.1 x.2.2.2) (fun x=>μ x.1 x.2.1 x.2.2.1 x.2.2.2) (b,d,f,g) p hE o hΦ fun x m a w s=>Code.wpIn_mono (fun e a w q=>by
  cases e with
  | normal=>obtain ⟨k,j,l,i,r,u,t⟩:=q;exact ⟨(k,j,l,i),r,u,t⟩
  | _=>exact q) (h x.1 x.2.1 x.2.2.1 x.2.2.2 m a w s)
theorem JS4 {x y:Code} {β1 β2 β3 β4:Type} (I:β1→β2→β3→β4→Prop) (Ei:β1→β2→β3→β4→Env) (Li:β1→β2→β3→β4→Own) (Φi:β1→β2→β3→β4→List Pers)
  (k:J P n X x (Exit.then (fun a w=>∃ d c f b,I d c f b∧St n X (Ei d c f b) (Li d c f b) (Φi d c f b) a w) Q) E L Φ) (p:∀ g h i j,I g h i j→J P n X y Q (Ei g h i j) (Li g h i j) (Φi g h i j)):J P n X (.seq x y) Q E L Φ :=
 D8k (β:=β1×β2×β3×β4) (fun x=>I x.1 x.2.1 x.2.2.1 x.2.2.2) (fun x=>Ei x.1 x.2.1 x.2.2.1 x.2.2.2) (fun x=>Li x.1 x.2.1 x.2.2.1 x.2.2.2) (fun x=>Φi x.1 x.2.1 x.2.2.1 x.2.2.2) (fun a w o=>Code.wpIn_mono (fun e a w q=>by
  cases e with
  | normal=>obtain ⟨d,c,f,b,m,r⟩:=q;exact ⟨(d,c,f,b),m,r⟩
  | _=>exact q) (k a w o)) fun x l=>p x.1 x.2.1 x.2.2.1 x.2.2.2 l
theorem JL7 {c:Code} {β1 β2 β3 β4 β5 β6 β7:Type} (I:β1→β2→β3→β4→β5→β6→β7→Prop) (Ei:β1→β2→β3→β4→β5→β6→β7→Env) (Li:β1→β2→β3→β4→β5→β6→β7→Own) (Φi:β1→β2→β3→β4→β5→β6→β7→List Pers) (μ:β1→β2→β3→β4→β5→β6→β7→Nat) (f:β1) (i:β2) (j:β3) (g:β4) (d:β5) (b:β6) (k:β7) (z:I f i j g d b k) (hE:S5 E (Ei f i j g d b k)) (y:(Li f i j g d b k).Sublist L) (hΦ:B0 Φ (Φi f i j g d b k))
  (h:∀ f i j g d b k,I f i j g d b k→J P n X c (Exit.then (fun a w=>∃ o r t l m p s,I o r t l m p s∧μ o r t l m p s<μ f i j g d b k∧St n X (Ei o r t l m p s) (Li o r t l m p s) (Φi o r t l m p s) a w) Q) (Ei f i j g d b k) (Li f i j g d b k) (Φi f i j g d b k)):J P n X (.loop c) Q E L Φ :=
 D2v (β:=β1×β2×β3×β4×β5×β6×β7) (fun x=>I x.1 x.2.1 x.2.2.1 x.2.2.2.1 x.2.2.2.2.1 x.2.2.2.2.2.1 x.2.2.2.2.2.2) (fun x=>Ei x.1 x.2.1 x.2.2.1 x.2.2.2.1 x.2.2.2.2.1 x.2.2.2.2.2.1 x.2.2.2.2.2.2) (fun x=>Li x.1 x.2.1 x.2.2.1 x.2.2.2.1 x.2.2.2.2.1 x.2.2.2.2.2.1 x.2.2.2.2.2.2) (fun x=>Φi x.1 x.2.1 x.2.2.1 x.2.2.2.1 x.2.2.2.2.1 x.2.2.2.2.2.1 x.2.2.2.2.2.2) (fun x=>μ x.1 x.2.1 x.2.2.1 x.2.2.2.1 x.2.2.2.2.1 x.2.2.2.2.2.1 x.2.2.2.2.2.2) (f,i,j,g,d,b,k) z hE y hΦ fun x v a w hs=>Code.wpIn_mono (fun e a w q=>by
  cases e with
  | normal=>obtain ⟨o,r,t,l,m,p,s,h1,h2,u⟩:=q;exact ⟨(o,r,t,l,m,p,s),h1,h2,u⟩
  | _=>exact q) (h x.1 x.2.1 x.2.2.1 x.2.2.2.1 x.2.2.2.2.1 x.2.2.2.2.2.1 x.2.2.2.2.2.2 v a w hs)
end
end Go.Fen
set_option linter.unusedVariables false
set_option linter.unusedSimpArgs false
namespace Go.Fen
open Go Go.RowKit
def H8 (n:Int):List Value:=[.int .i64 n]
def cU8 (b:UInt8):List Value:=[.int .u8 (b.toNat:Int)]
def E2y (s:List UInt8):List Value:=[.string (bs s)]
def N8 (b:Bool):List Value:=[.bool b]
def by8 (n:Int):UInt8:=UInt8.ofNat n.toNat
theorem D7k {k:IntKind} {m:Int} (a:k.min≤m) (b:m≤k.max):k.wrap m=m:=A1b a b
theorem E3g (b:UInt8):(b.toNat:Int)≤255:=by have:=b.toNat_lt;omega
theorem B0w (b:UInt8):IntKind.i64.wrap (b.toNat:Int)=b.toNat:=A1b (by show (-9223372036854775808:Int)≤_;omega) (by have:=E3g b;show _≤(9223372036854775807:Int);omega)
theorem B6c {n:Int} (h:0≤n∧n≤255):((by8 n).toNat:Int)=n:=by
 unfold by8;rw [UInt8.toNat_ofNat'];omega
theorem B8p {α:Type} {x:α} {e R:List α} (h:x::e=R):∃ R',e=R'∧R=x::R':=⟨e,rfl,h.symm⟩
section
variable {P:Program} {n:Nat} {X:Cx} {K:Act→World→Prop} {Q:Exit→Act→World→Prop} {E E':Env} {L L':Own} {Φ Φ':List Pers}
theorem B0g {α:Type} {c:α→List Value}:R0 Φ (sl c none []):=fun _ _=>rfl
theorem D4x (a b:List UInt8):(a == b)=decide (a=b):=by
 by_cases h:a=b<;>simp [h]
theorem B5x (a:List UInt8):(bs a).size=a.length:=rfl
theorem D8l {o:Oper} {T U:TypeId} {x y:Operand} {a b:List UInt8} (d:o.op=.binOp .eql T x y U) (e:ev E x=some (.string (bs a))) (f:ev E y=some (.string (bs b))):G7 P X o E L Φ (.bool (decide (a=b))) :=
 .of_run fun g w c _=>by
  simp [execOp,d,C4 c e,C4 c f,eqGuard,binOp,Op.stringOp,D4x]
theorem A1x {o:Oper} {T U:TypeId} {x y:Operand} {a b:List UInt8} (d:o.op=.binOp .neq T x y U) (e:ev E x=some (.string (bs a))) (f:ev E y=some (.string (bs b))):G7 P X o E L Φ (.bool (!decide (a=b))) :=
 .of_run fun g w c _=>by
  simp [execOp,d,C4 c e,C4 c f,eqGuard,binOp,Op.stringOp,D4x]
theorem D5k (a b:List UInt8):bs a++bs b=bs (a++b):=by
 apply ByteArray.ext;simp [bs]
theorem C7x {o:Oper} {T U:TypeId} {x y:Operand} {a b:List UInt8} (d:o.op=.binOp .add T x y U) (e:ev E x=some (.string (bs a))) (f:ev E y=some (.string (bs b))) (h:a.length+b.length≤9223372036854775807):G7 P X o E L Φ (.string (bs (a++b))) :=
 .of_run fun i w c _=>by
  have g:¬ ((((bs a).size+(bs b).size:Nat):Int) > IntKind.i64.max):=by
   rw [B5x,B5x];show ¬ ((_:Int) > 9223372036854775807);omega
  simp only [execOp,d,C4 c e,C4 c f,eqGuard,binOp,Op.stringOp,if_neg g,D5k]
  rfl
theorem D6g (s:List UInt8) (k:Nat) (h:k<s.length):(bs s)[k]?=some (s.getD k 0):=by
 have:k<(bs s).size:=h
 rw [getElem?_pos (bs s) k this]
 simp only [bs,ByteArray.getElem_eq_getElem_data]
 simp [List.getD,h]
theorem B8t {o:Oper} {T:TypeId} {x y:Operand} {s:List UInt8} {m:Int} (g:P.underlying T=some .string) (b:o.op=.index T x y) (d:ev E x=some (.string (bs s))) (f:ev E y=some (.int .i64 m)) (k:Nat) (e:m=k) (c:k<s.length) :
  G7 P X o E L Φ (.int .u8 ((s.getD k 0).toNat:Int)):=.of_run fun h w a _=>by
 subst e
 have i:(0:Int)≤k:=by omega
 simp [execOp,b,C4 a d,C4 a f,Instr.index,asIntOf,run_underlying g,D6g s k c]
theorem B8f (s:List UInt8) (l h:Nat) (a:h≤s.length):(bs s).extract l h=bs ((s.drop l).take (h - l)):=by
 apply ByteArray.ext
 rw [ByteArray.data_extract]
 simp only [bs]
 apply Array.ext'
 simp
theorem D1s {o:Oper} {T:TypeId} {x f i:Operand} {s:List UInt8} {a b:Int} (q:P.underlying T=some .string) (j:o.op=.slice T x (some f) (some i) none) (k:ev E x=some (.string (bs s))) (c:ev E f=some (.int .i64 a)) (e:ev E i=some (.int .i64 b)) (l:Nat) (t:a=l) (h:Nat) (m:b=h) (p:l≤h) (g:h≤s.length) :
  G7 P X o E L Φ (.string (bs ((s.drop l).take (h - l)))):=.of_run fun u w d _=>by
 subst t m
 have r:(0:Int)≤h∧(h:Int)≤(bs s).size:=by rw [B5x];omega
 have n:(0:Int)≤l∧(l:Int)≤h:=by omega
 simp [execOp,j,C4 d k,C4 d c,C4 d e,Instr.sliceAt,Instr.slice,Instr.sliceBounds,Instr.sliceBound,asIntOf,run_underlying q,r,n,B8f s l h g,show h≤(bs s).size from g,p]
theorem B5l {o:Oper} {T:TypeId} {x d:Operand} {s:List UInt8} {b:Int} (i:P.underlying T=some .string) (f:o.op=.slice T x none (some d) none) (g:ev E x=some (.string (bs s))) (a:ev E d=some (.int .i64 b)) (h:Nat) (k:b=h) (c:h≤s.length) :
  G7 P X o E L Φ (.string (bs (s.take h))):=.of_run fun l w e _=>by
 subst k
 have j:(0:Int)≤h∧(h:Int)≤(bs s).size:=by rw [B5x];omega
 have:=B8f s 0 h c
 simp only [List.drop_zero,Nat.sub_zero] at this
 simp [execOp,f,C4 e g,C4 e a,Instr.sliceAt,Instr.slice,Instr.sliceBounds,Instr.sliceBound,asIntOf,run_underlying i,j,this,show h≤(bs s).size from c]
theorem B6u {o:Oper} {T:TypeId} {x d:Operand} {s:List UInt8} {a:Int} (j:P.underlying T=some .string) (g:o.op=.slice T x (some d) none none) (i:ev E x=some (.string (bs s))) (b:ev E d=some (.int .i64 a)) (l:Nat) (h:a=l) (f:l≤s.length) :
  G7 P X o E L Φ (.string (bs (s.drop l))):=.of_run fun k w c _=>by
 subst h
 have e:(0:Int)≤l∧(l:Int)≤(bs s).size:=by rw [B5x];omega
 have:=B8f s l s.length (Nat.le_refl _)
 rw [List.take_of_length_le oom] at this
 simp [execOp,g,C4 c i,C4 c b,Instr.sliceAt,Instr.slice,Instr.sliceBounds,Instr.sliceBound,asIntOf,run_underlying j,e,B5x,this,f]
theorem B2o {α:Type} {rs:List Slc} {xss:List (List α)} (a:D5 rs xss) {k:Nat} (h:k<rs.length) {d:Slc}:(Value.slice (rs.getD k d).q (rs.getD k d).n (rs.getD k d).k)=.slice (rs.getD k d).q (xss.getD k []).length (rs.getD k d).k:=by
 have b:=gd d h
 have c:xss[k]?=some (xss.getD k []):=gd [] (by have:=a.1;omega)
 rw [(a.2 k _ _ b c).1]
theorem B1q {α:Type} {rs:List Slc} {xss:List (List α)} (a:D5 rs xss) {k:Nat} (h:k<rs.length) {d:Slc}:(xss.getD k []).length≤(rs.getD k d).k∧(xss.getD k []).length≤9223372036854775807:=by
 have b:=gd d h
 have c:xss[k]?=some (xss.getD k []):=gd [] (by have:=a.1;omega)
 have:=a.2 k _ _ b c
 omega
theorem B2a {α:Type} {c:α→List Value} {rs:List Slc} {xss:List (List α)} (b:D5 rs xss) (j:Nat) (a:Φ[j]?=some (I1 c rs xss)) {k:Nat} (h:k<rs.length) {d:Slc}:R0 Φ (sl c (rs.getD k d).q (xss.getD k [])) :=
 D9w j a (gd d h) (gd [] (by have:=b.1;omega))
theorem B8a {o:Oper} {T e sz len:Nat} {agg:Bool} {x y:Operand} {a:Addr} {m:Int} (j:P.underlying T=some (.array len e)) (g:Ty P e sz agg) (c:o.op=.indexAddr T x y)
  (d:ev E x=some (.pointer (some a))) (i:ev E y=some (.int .i64 m)) (k:Nat) (f:m=k) (l:k<len):G7 P X o E L Φ (.pointer (some (a.add (k * sz)))):=.of_run fun n w b _=>by
 subst f
 have h:(0:Int)≤k∧(k:Int)<len:=by omega
 simp [execOp,c,C4 b d,C4 b i,Instr.indexAt,asIntOf,run_underlying j,Instr.sureAddr,g.size,h,Nat.not_le.2 l]
def B8j (q:Option Addr) (l sz m:Nat):Option Addr:=if m=l then q else q.map (·.add (l * sz))
def SB (E:Env) (o:Option Operand) (d v:Nat):Prop:=match o with | none=>v=d | some x=>∃ m,ev E x=some (.int .i64 m)∧m=(v:Int)
theorem A6w {d:Nat}:SB E none d d:=rfl
theorem A3t {x:Operand} {m:Int} {d v:Nat} (h:ev E x=some (.int .i64 m)) (a:m=v):SB E (some x) d v:=⟨m,h,a⟩
theorem A2o {a:Act} (g:Has a E) {x:Operand} {d v y:Nat} (h:SB E (some x) d v) (i:v≤y) (b:BoundsCode) (w:World):(Instr.sliceBound (a.eval x) y b).run P w=.ok v w:=by
 obtain ⟨m,e,f⟩:=h
 subst f
 have c:(0:Int)≤v∧(v:Int)≤y:=by omega
 simp [Instr.sliceBound,C4 g e,asIntOf,c]
theorem B6a {o:Oper} {T e sz:Nat} {x:Operand} {c d i:Option Operand} {q:Option Addr} {len cap:Nat} (hT:SlTy P T e sz) (ho:o.op=.slice T x c d i) (hx:ev E x=some (.slice q len cap)) (l h m:Nat) (f:SB E c 0 l) (g:SB E d len h) (s:SB E i cap m)
  (k:l≤h) (j:h≤m) (v:m≤cap) {n':Nat} (hn:n'=h - l) (t:(i.isSome&&!d.isSome)=false):G7 P X o E L Φ (.slice (B8j q l sz m) n' (m - l)):=.of_run fun p w b _=>by
 subst hn
 have r:(Instr.sliceBounds true len cap (c.map p.eval) (d.map p.eval) (i.map p.eval)).run P w=.ok (l,h,m) w:=by
  unfold Instr.sliceBounds
  cases i with
  | none =>
   have u:m=cap:=s
   subst u
   cases d with
   | none =>
    have n:h=len:=g
    subst n
    cases c with
    | none=>have a:l=0:=f;subst a;simp
    | some z=>simp [A2o b f k]
   | some y =>
    cases c with
    | none=>have a:l=0:=f;subst a;simp [A2o b g j]
    | some z=>simp [A2o b f k,A2o b g j]
  | some z =>
   cases d with
   | none=>simp at t
   | some y =>
    cases c with
    | none=>have a:l=0:=f;subst a;simp [A2o b g j,A2o b s v]
    | some z=>simp [A2o b f k,A2o b g j,A2o b s v]
 simp only [execOp,ho,Sem.run_bind,C4 b hx,Instr.sliceAt,Instr.slice,run_underlying hT.ty,Result.andThen_ok,r,hT.run,B8j]
 rfl
theorem E3u (q:Option Addr) (sz m:Nat):B8j q 0 sz m=q:=by
 unfold B8j;split
 ·rfl
 ·cases q<;>simp [Addr.add]
theorem C5h {o:Oper} {T e sz:Nat} {x:Operand} {c b:Option Operand} {q:Option Addr} {a cap:Nat} (n:SlTy P T e sz) (f:o.op=.slice T x none c b) (g:ev E x=some (.slice q a cap)) (h m:Nat) (j:SB E c a h) (l:SB E b cap m)
  (i:h≤m) (k:m≤cap) {n':Nat} (p:n'=h) (d:(b.isSome&&!c.isSome)=false):G7 P X o E L Φ (.slice q n' m):=by
 have:=B6a (L:=L) (Φ:=Φ) (X:=X) n f g 0 h m A6w j l (Nat.zero_le _) i k (n':=n') opx d
 rwa [E3u] at this
theorem D6x {α:Type} {c:α→List Value} {sz:Nat} {q:Option Addr} {xs:List α} (h:R0 Φ (sl c q xs)) (l k m:Nat) (i:∀ x,(c x).length=sz) {ys:List α} (s:ys=(xs.drop l).take (k - l)) (o:l≤xs.length) (u:k≤m):R0 Φ (sl c (B8j q l sz m) ys):=fun p f=>by
 subst s
 have:=h p f
 unfold B8j
 split
 ·rename_i e
  subst e
  rw [show k - m=0 by omega,List.take_zero]
  cases q with
  | none=>rfl
  | some a=>exact .inl rfl
 ·cases q with
  | none=>have e:xs=[]:=this;subst e;simp [sl]
  | some a =>
   obtain ⟨b,of,t⟩:=a
   obtain n | ⟨h0,cc,T,fr,h3,h4⟩:=this
   ·exact .inl (List.flatMap_eq_nil_iff.2 fun x g=>List.flatMap_eq_nil_iff.1 n x (List.mem_of_mem_drop (List.mem_of_mem_take g)))
   simp only at h0 h3 h4
   subst h0
   simp only [Option.map_some,Z4]
   refine .inr ⟨rfl,cc,T,fr,h3,fun j v d=>?_⟩
   have e:xs.flatMap c=(xs.take l).flatMap c++((((xs.drop l).take (k - l)).flatMap c)++((xs.drop l).drop (k - l)).flatMap c):=by
    rw [← List.flatMap_append,← List.flatMap_append,List.take_append_drop,List.take_append_drop]
   have r:((xs.take l).flatMap c).length=l * sz:=by rw [F5 i,List.length_take,Nat.min_eq_left o]
   simp only
   rw [Nat.add_assoc]
   refine h4 _ _ ?_
   rw [e,List.getElem?_append_right opx,r,Nat.add_sub_cancel_left,List.getElem?_append_left (List.getElem?_eq_some_iff.1 d).1]
   exact d
theorem B5c {o:Oper} {c:Call} {T e sz b:Nat} {x y:Operand} {α:Type} {f:α→List Value} {r:VR} {xs ys:List α} {a:Addr} {m cc:Nat} {pre post:Own} (z:ApTy P T e sz b) (s:∀ x,(f x).length=sz) (g:∀ x,(f x).all (·.oneCell')=true)
  (l:o.op=.call c) (q:c.callee=.builtin .append) (k:c.args=#[x,y]) (h:c.argTypes=#[T,T]) (p:ev E x=some (vv r xs.length)) (v:ev E y=some (.slice (some a) m cc)) (_h:True=True) (w:m=ys.length) (t:L=pre++(vo f e r xs++post))
  (u:R0 Φ (sl f (some a) ys)) (i:VOk sz xs.length r) (hb:(xs.length+ys.length) * b≤140737488355328) (j:xs.length+ys.length≤9223372036854775807) :
  Tri P n X o E L Φ {d:VR // VOk sz (xs++ys).length d} (fun d=>vv d.1 (xs++ys).length) (fun d=>pre++(vo f e d.1 (xs++ys)++post)) (fun _=>Φ):=by
 rw [List.length_append]
 exact D3j z s g l q k h p v w t u i hb j
theorem D0g {w:World} {a:Nat} {T ty e:TypeId} {i:TypeInfo} {size:Nat} (h:P.underlying T=some (.slice e)) (f:P.info? e=some i)
  {v:Value} {n:Nat} {xs:List Value} (b:w.ownsRow a e size v n xs) (c:Nat):(Builtin.append_ #[T,T] ty #[v,.slice none 0 c]).run P w=.ok v w:=by
 rcases b.2 with ⟨rfl,rfl⟩ | ⟨g,cap,cur,rfl,_,_,d,_⟩
 ·simp [Builtin.append_,run_underlying h,sizeOf,typeInfo,f,Builtin.lenOf,Builtin.firstCells]
 ·simp [Builtin.append_,run_underlying h,sizeOf,typeInfo,f,Builtin.lenOf,Builtin.firstCells,d,storeCells]
theorem D8x {T e sz d:Nat} (l:ApTy P T e sz d) {α:Type} {f:α→List Value} (g:∀ x,(f x).length=sz) {r:VR} {xs:List α} {pre post:Own} {w:World} (i:StW X (pre++(vo f e r xs++post)) Φ w) (a:VOk sz xs.length r) :
  w.ownsRow 0 e sz (vv r xs.length) xs.length (xs.flatMap f):=by
 obtain ⟨p,h⟩:=i
 refine ⟨F5 g xs,?_⟩
 unfold VOk at a
 split at a
 ·rename_i c
  refine .inl ⟨?_,a.1⟩
  unfold vv va
  rw [c,a.1,a.2]
 ·rename_i b c
  refine .inr ⟨b,r.k,(xs.flatMap f++r.j).toArray,?_,Nat.zero_le _,?_,a.2.1,a.2.2,?_,?_⟩
  ·unfold vv va;rw [c]
  ·have:=h.own.1 (bx b (xs.flatMap f++r.j) e) (List.mem_append_right _ (List.mem_append_left _ (by unfold vo;rw [c];simp)))
   exact this.1
  ·simp only [List.size_toArray,List.length_append,F5 g];exact a.1
  ·rw [← F5 g xs];simp
theorem C3q {o:Oper} {c:Call} {T e sz d:Nat} {x y:Operand} {α:Type} {f:α→List Value} {r:VR} {xs ys:List α} {q:Option Addr} {m cc:Nat} {pre post:Own} (l:ApTy P T e sz d) (hf:∀ x,(f x).length=sz) (s:∀ x,(f x).all (·.oneCell')=true)
  (t:o.op=.call c) (hc:c.callee=.builtin .append) (j:c.args=#[x,y]) (h:c.argTypes=#[T,T]) (hx:ev E x=some (vv r xs.length)) (hy:ev E y=some (.slice q m cc)) (hm:m=ys.length) (hL:L=pre++(vo f e r xs++post))
  (hq:R0 Φ (sl f q ys)) (b:VOk sz xs.length r) (hb:(xs.length+ys.length) * d≤140737488355328) (v:xs.length+ys.length≤9223372036854775807) :
  Tri P n X o E L Φ {g:VR // VOk sz (xs++ys).length g} (fun g=>vv g.1 (xs++ys).length) (fun g=>pre++(vo f e g.1 (xs++ys)++post)) (fun _=>Φ):=by
 cases q with
 | some a=>exact B5c l hf s t hc j h hx hy rfl hm hL hq b hb v
 | none =>
  intro ac w K Q k hk
  obtain ⟨p,hp⟩:=k.world
  have u:ys=[]:=hq p hp.facts
  subst u
  simp only [List.length_nil] at hm
  subst hm
  have z:=k.world
  rw [hL] at z
  obtain ⟨i,hi,_⟩:=Option.map_eq_some_iff.1 l.info
  refine A7c (by rw [t];rfl) ?_
  unfold Oper.wp
  rw [show (execOp ac.eval o).run P w=.ok (.value (vv r xs.length)) w by
   simp [execOp,t,resolve,hc,j,h,C4 k.has hx,C4 k.has hy,invoke,builtin,D0g (P:=P) (ty:=o.type) l.ty hi (D8x l hf z b) cc]]
  have:=hk ⟨r,by simpa using b⟩ w (by simpa using z)
  exact (by simpa using this:K (ac.put o.dst (vv r xs.length)) w)
theorem VOk.cap {sz n:Nat} {r:VR} (h:VOk sz n r):n≤r.k:=by
 unfold VOk at h
 split at h
 ·omega
 ·exact h.2.1
theorem VOk.le {sz n:Nat} {r:VR} (h:VOk sz n r):n≤9223372036854775807:=by
 unfold VOk at h
 split at h
 ·omega
 ·exact Nat.le_trans h.2.1 h.2.2
theorem V8 {o:Oper} {c:Call} {f:Operand} {k:FuncId} {first cap:Array Value} {g args:List Value} {L0 L2:Own} {Φ0:List Pers} {α:Type} {val:α→Value} {L1:α→Own} {Φ1:α→List Pers}
  (d:Con P k args L0 Φ0 α val L1 Φ1) (i:o.op=.call c) (l:c.callee=.value f) (m:ev E f=some (.func (.func k) first cap)) (b:c.args.toList.mapM (ev E)=some g) (s:(first++g.toArray++cap).toList=args)
  (hΦ:B0 Φ Φ0) (p:L.Perm (L0++L2)) (L':α→Own) (e:∀ x,(L1 x++L2).Perm (L' x)):Tri P n X o E L Φ α val L' (fun x=>Φ1 x++Φ):=by
 intro a w K Q r j
 exact C9q d i l m b s hΦ p a w K Q r fun x w' q=>j x w' (q.perm (e x))
theorem C9m (s:List UInt8) (j:Nat) (a:j<s.length):(s.flatMap cU8)[j]?=some (.int .u8 (s[j].toNat:Int)):=by
 have:=B0z (c:=cU8) (sz:=1) (fun _=>rfl) (xs:=s) (k:=j) (v:=s[j]) (by simp [a]) 0 _ rfl
 simpa using this
theorem B9p {o:Oper} {S T e:TypeId} {x:Operand} {q:Option Addr} {n' k:Nat} {s:List UInt8} (i:P.underlying T=some .string) (g:P.underlying S=some (.slice e)) (d:o.op=.convert S T x) (f:ev E x=some (.slice q n' k)) (n:R0 Φ (sl cU8 q s)) (m:n'=s.length) (l:(P.underlying e)=some (.int .u8)):G7 P X o E L Φ (.string (bs s)) :=
 .of_run fun t w h ⟨p,c⟩=>by
  subst m
  have b:=n p c.facts
  cases q with
  | none =>
   have b:s=[]:=b
   subst b
   simp [execOp,d,C4 h f,convert,run_underlying i,run_underlying g,run_underlying l,Conv.bytesToString]
   rfl
  | some a =>
   have b:A5k p a (s.flatMap cU8):=b
   have:=run_convert_bytes_back (P:=P) w S T e a k s g l i fun j r=>b.cell c.sub (C9m s j r)
   simp [execOp,d,C4 h f,this]
theorem C3x {o:Oper} {T U:TypeId} {x y:Operand} {k:IntKind} {a b:Int} (d:o.op=.binOp .quo T x y U) (e:ev E x=some (.int k a)) (f:ev E y=some (.int k b)) (g:b≠0):G7 P X o E L Φ (.int k (k.wrap (a.tdiv b))):=.of_run fun h w c _=>by
 simp [execOp,d,C4 c e,C4 c f,eqGuard,binOp,Op.intDiv,g]
theorem P5 {α:Type} {c:α→List Value}:R0 Φ (I1 c [] []):=fun p _ i r xs h=>by simp at h
theorem A1h {α:Type} {c:α→List Value} {r:Slc} {xs:List α} {rs:List Slc} {xss:List (List α)} (e:R0 Φ (sl c r.q xs)) (g:R0 Φ (I1 c rs xss)):R0 Φ (I1 c (r::rs) (xs::xss)):=fun p d i f b hr a=>by
 cases i with
 | zero=>simp only [List.getElem?_cons_zero,Option.some.injEq] at hr a;subst hr a;exact e p d
 | succ i=>simp only [List.getElem?_cons_succ] at hr a;exact g p d i f b hr a
theorem D5.none {α:Type}:D5 [] ([]:List (List α)):=⟨rfl,fun i r xs h=>by simp at h⟩
theorem D5.cons {α:Type} {r:Slc} {xs:List α} {rs:List Slc} {xss:List (List α)} (d:r.n=xs.length∧r.n≤r.k∧xs.length≤9223372036854775807) (c:D5 rs xss):D5 (r::rs) (xs::xss):=⟨by simp [c.1],fun i e b hr a=>by
 cases i with
 | zero=>simp only [List.getElem?_cons_zero,Option.some.injEq] at hr a;subst hr a;exact d
 | succ i=>simp only [List.getElem?_cons_succ] at hr a;exact c.2 i e b hr a⟩
end
end Go.Fen
set_option linter.unusedVariables false
set_option linter.unusedSimpArgs false
namespace Go.Fen
open Go Go.RowKit
section
variable {P:Program} {n:Nat} {X:Cx} {K:Act→World→Prop} {Q:Exit→Act→World→Prop} {E E':Env} {L L':Own} {Φ Φ':List Pers}
theorem W7 {o:Oper} {T:TypeId} (c:o.op=.makeMap T none):Tri P n X o E L Φ Nat (fun b=>.map (some b)) (fun b=>(b,.map #[] 0)::L) (fun _=>Φ):=by
 intro a w K Q e d
 refine A7c (by rw [c];rfl) ?_
 unfold Oper.wp
 rw [show (execOp a.eval o).run P w=.ok (.value (.map (some w.heap.size))) (w.alloc (.map #[] 0)) by
  simp only [execOp,c,Sem.run_bind,Option.map_none,run_makeMap];rfl]
 exact d w.heap.size _ (e.world.alloc _)
structure MapTy (P:Program) (T k e:Nat) (kd:TypeDesc):Prop where
 ty:P.underlying T=some (.map k e)
 key:P.underlying k=some kd
 plain:(match kd with | .int _ | .string | .bool=>true | _=>false)=true
theorem A1t {T k e:Nat} {a:TypeDesc} (b:MapTy P T k e a) (c:Bool) (v:Value) (w:World):(Instr.checkKey c 10000 k v).run P w=.ok () w:=by
 have d:=b.plain
 unfold Instr.checkKey
 rw [Sem.run_bind,run_underlying b.key]
 cases a<;>simp_all
theorem A3i {T k e:Nat} {a:TypeDesc} (b:MapTy P T k e a) {v:Value} {es:List MapEntry} {r:Option (Nat×Value)} (h:Instr.findNow a v es 0=some r) (w:World):(Instr.findKey k v es).run P w=.ok r w:=by
 unfold Instr.findKey
 rw [Sem.run_bind,run_underlying b.key]
 simp [h]
theorem D2h {w:World} {r:Nat} {es:Array MapEntry} {a:Nat} (h:w.heap[r]?=some (.map es a)):(getObj r).run P w=.ok (.map es a) w:=by simp [getObj,Sem.run,h]
theorem E4d {w:World} {r:Nat} {es:Array MapEntry} {a:Nat} (o:Obj) (h:w.heap[r]?=some (.map es a)):(setObj r o).run P w=.ok () {w with heap:=w.heap.setIfInBounds r o}:=by simp [setObj,Sem.run,h]
theorem B9v {w:World} (d:StW X L Φ w) {i b:Nat} {o:Obj} (c:L[i]?=some (b,o)):w.heap[b]?=some o:=by
 obtain ⟨p,a⟩:=d
 exact C4f a c
theorem E7 {o:Oper} {T k e:Nat} {u:TypeDesc} {m p f:Operand} {b:Nat} {h v:Value} {es es':Array MapEntry} {c:Nat} (q:MapTy P T k e u) (d:o.op=.insert T m p f∨o.op=.mapUpdate T m p f) (hm:ev E m=some (.map (some b))) (y:ev E p=some h) (x:ev E f=some v)
  (i:Nat) (t:L[i]?=some (b,.map es c)) (z:Instr.findNow u h es.toList 0=some none) (he:es.push ⟨h,v,c⟩=es') :
  Tri P n X o E L Φ Unit (fun _=>undef) (fun _=>L.set i (b,.map es' (c+1))) (fun _=>Φ):=by
 intro a w K Q g r
 have l:=B9v g.world t
 subst he
 have hr:(execOp a.eval o).run P w=.ok .skip {w with heap:=w.heap.setIfInBounds b (.map (es.push ⟨h,v,c⟩) (c+1))}:=by
  rcases d with d | d <;>
  simp [execOp,d,C4 g.has hm,C4 g.has y,C4 g.has x,Instr.mapUpdate,run_underlying q.ty,D2h l,E4d _ l,A1t q,A3i q z]
 have s:b<w.heap.size:=(Array.getElem?_eq_some_iff.1 l).1
 refine A7c (by rcases d with d | d<;>rw [d]<;>rfl) ?_
 unfold Oper.wp
 rw [hr]
 refine r () _ (g.world.set t ?_ (fun j hj=>?_) rfl rfl rfl oom)
 ·simp [s]
 ·simp [Array.getElem?_setIfInBounds,Ne.symm hj]
theorem X3 {o:Oper} {T k e:Nat} {g:TypeDesc} {m f:Operand} {b j:Nat} {d v:Value} {es:Array MapEntry} {c:Nat} (a:MapTy P T k e g) (l:o.op=.lookup T m f true) (t:ev E m=some (.map (some b))) (n:ev E f=some d)
  (i:Nat) (s:L[i]?=some (b,.map es c)) (p:Instr.findNow g d es.toList 0=some (some (j,v))):G7 P X o E L Φ (.tuple #[v,.bool true]):=.of_run fun u w h r=>by
 have q:=B9v r s
 simp [execOp,l,C4 h t,C4 h n,Instr.lookup,run_underlying a.ty,D2h q,A1t a,A3i a p]
theorem D5d {o:Oper} {T:TypeId} {d:TypeDesc} {x:Operand} {v:Value} (c:P.underlying T=some d) (e:(match d with | .interface _=>false | _=>true)=true) (g:o.op=.makeInterface T x) (a:ev E x=some v):G7 P X o E L Φ (.iface T v):=.of_run fun f w b _=>by
 cases d<;>simp_all [execOp,Instr.makeInterface,C4 b a,run_underlying c]
def E1u {ρ:Type} (pv:Value) (val:ρ→Value):Option ρ→Ending
 | some r=>.returned (val r)
 | none=>.panicked [{v:=pv,recovered:=false}]
def B8x (P:Program) (f:FuncId) (args:List Value) (L0:Own) (Φ0:List Pers) {ρ:Type} (pv:Value) (R:Option ρ) (val:ρ→Value):Prop :=
 HasBody P f∧∀ (w:World) (h:Hp),(∀ q ∈ Φ0,q.p h)→h.sub w→A0u L0 h w →
  Calls P f args.toArray w fun e w'=>StW (cx w h (L0.map Prod.fst)) [] [] w'∧e=E1u pv val R
def D4s (P:Program) (X:Cx) (a:Func) {ρ:Type} (pv:Value) (R:Option ρ) (val:ρ→Value):Exit→Act→World→Prop :=
 bodyPostM (FW none) 0 P a fun e w'=>StW X [] [] w'∧e=E1u pv val R
theorem A3q {f:FuncId} {a:Func} {c:Code} {args:List Value} {L0:Own} {Φ0:List Pers} {ρ:Type} {pv:Value} {R:Option ρ} {val:ρ→Value}
  (k : P.funcs[f]? = some a) (i : a.body = some c) (j : (a.name == "runtime.NumGoroutine") = false) (l : a.ntmps = n) (g : Nat.ble args.length n = true) (E0 : Env) (hE : S5 ((List.range args.length).zip args) E0)
  (h:∀ X:Cx,X.M=L0.map Prod.fst→X.rho=none→X.D=[]→J P n X c (D4s P X a pv R val) E0 L0 Φ0):B8x P f args L0 Φ0 pv R val:=by
 refine ⟨⟨by simp [k,i,j]⟩,fun w p o t q=>?_⟩
 have m:args.length≤n:=Nat.le_of_ble_eq_true g
 refine (callsIn_wide (n:=0)).1 (callsIn_of_wp_marks (F:=Fence.wide) k i trivial (h (cx w p (L0.map Prod.fst)) rfl rfl rfl _ w ⟨?_,rfl,?_,p,⟨o,t,Hp.le_refl p,fun b i=>.inl i,q,fun e r=>.inl (List.mem_map_of_mem r),KeptBut.refl _ w,fun d s=>by cases s⟩⟩))
 ·simp [l];omega
 ·rw [l];exact B5y g hE
theorem C7m {X':Cx} {a:Act} {w:World} {i:Func} {ρ:Type} {pv:Value} {R:Option ρ} {val:ρ→Value} {v:Value} {r:ρ} (hX:X'=X.wd X'.D) (g:X=X.wd []) (b:X.rho=none) (c:(X'.D.map Prod.fst).Nodup∧∀ d ∈ X'.D,d.2=.deferred (some [])) (hr:Res P n X i E L Φ v) (hR:R=some r) (j:val r=v)
  (h:St n X' E L Φ a w):LeavesInM (FW none) 0 P i a.tmps (fun e w'=>StW X [] [] w'∧e=E1u pv val R) a.defers .returning w:=by
 have k:X'.marks=X'.D.map (B7g ·.1):=by rw [hX];unfold Cx.marks Cx.wd;simp only [b]
 rw [h.defers,k]
 refine A8r (X:=X) (L:=L) (Φ:=Φ) X'.D c.1 c.2 w (hX▸h.world) fun w' f=>⟨v,?_,?_,by rw [hR,← j];rfl⟩
 ·rw [g] at hr
  exact hr {a with defers:=[]} w' ⟨h.size,by unfold Cx.marks Cx.wd;simp only [b];rfl,h.has,f⟩
 ·rw [g];exact (f.sub (List.nil_sublist _)).foll B0.nil
theorem A9f {X':Cx} {f:Func} {ρ:Type} {pv:Value} {R:Option ρ} {val:ρ→Value} {v:Value} {r:ρ} (hX:X'=X.wd X'.D) (b:X.rho=none∧X.D=[]) (c:(X'.D.map Prod.fst).Nodup∧∀ d ∈ X'.D,d.2=.deferred (some [])) (hr:Res P n X f E L Φ v) (hR:R=some r) (h:val r=v) :
  JQ n X' (D4s P X f pv R val .ret) E L Φ:=fun a w i=>C7m hX (by obtain ⟨k,j,M,r,D⟩:=X;obtain ⟨e,g⟩:=b;simp only at e g;subst e g;rfl) b.1 c hr hR h i
theorem B3g {X':Cx} {f:Func} {ρ:Type} {pv:Value} {R:Option ρ} {val:ρ→Value} {v:Value} {r:ρ} (hX:X'=X.wd X'.D) (b:X.rho=none∧X.D=[]) (c:(X'.D.map Prod.fst).Nodup∧∀ d ∈ X'.D,d.2=.deferred (some [])) (hr:Res P n X f E L Φ v) (hR:R=some r) (h:val r=v) :
  JQ n X' (D4s P X f pv R val .normal) E L Φ:=fun a w i=>C7m hX (by obtain ⟨k,j,M,r,D⟩:=X;obtain ⟨e,g⟩:=b;simp only at e g;subst e g;rfl) b.1 c hr hR h i
theorem O6 {c:Func} {ρ:Type} {pv:Value} {R:Option ρ} {val:ρ→Value} (b:X.rho=none∧X.D=[]) (hR:R=none) :
  JQ n X (D4s P X c pv R val (.panic [{v:=pv,recovered:=false}])) E L Φ:=fun a w d=>by
 have e:a.defers=[]:=by rw [d.defers];unfold Cx.marks;rw [b.1,b.2];rfl
 show LeavesInM (FW none) 0 P c a.tmps _ a.defers _ w
 rw [e,hR]
 exact ⟨(d.world.sub (List.nil_sublist _)).foll B0.nil,rfl⟩
theorem D7d {b:Array Oper} {i m:Nat} {o:Oper} {x:Operand} {T:TypeId} {v:Value} (g:B9f n b i E=some o) (e:o.op=.panic x) (j:ev E x=some (.iface T v)) (h:JQ n X (Q (.panic [{v:=.iface T v,recovered:=false}])) E L Φ) :
  JI P n X b i (m+1) K Q E L Φ:=by
 intro a w d
 obtain ⟨k,l,_⟩:=U2 g
 rw [A9h k,List.take_succ_cons]
 refine wpListIn_step fun K' p=>?_
 rw [if_pos (A0o d.has l)]
 refine ⟨fun _ _=>trivial,?_⟩
 rw [Oper.semAt_eq _ _ _ (fun c f=>by rw [e] at f;cases f)]
 rw [show (execOp a.eval o).run P w=.halt (.panic (.iface T v)) w by simp [execOp,e,C4 d.has j,Instr.panic,goPanic]]
 exact h a w d
theorem X4 {f:Array Oper} {i m:Nat} {o:Oper} {c:Call} {z:Operand} {k:FuncId} {first cap:Array Value} {vs args:List Value} {L0 L2:Own} {Φ0:List Pers} {ρ:Type} {pv:Value} {R:Option ρ} {val:ρ→Value}
  (b:B8x P k args L0 Φ0 pv R val) (u:B9f n f i E=some o) (y:o.op=.call c) (hc:c.callee=.value z) (hf:ev E z=some (.func (.func k) first cap)) (d:c.args.toList.mapM (ev E)=some vs) (ha:(first++vs.toArray++cap).toList=args)
  (hΦ:B0 Φ Φ0) (x:L.Perm (L0++L2)) (h1:∀ r,R=some r→JI P n X f (i+1) m K Q (Env.put E o.dst (val r)) L2 Φ) (h2:R=none→JQ n X (Q (.panic [{v:=pv,recovered:=false}])) E L2 Φ):JI P n X f i (m+1) K Q E L Φ:=by
 intro a w g
 obtain ⟨e1,e2,e3⟩:=U2 u
 rw [A9h e1,List.take_succ_cons]
 refine wpListIn_step fun K' hK=>?_
 rw [if_pos (A0o g.has e2)]
 obtain ⟨p,l⟩:=g.world
 have hr:=C5r g.has y hc hf d b.1 w
 have s:A0u (L0++L2) p w:=⟨fun e j=>l.own.1 e (x.symm.subset j),(x.map Prod.fst).nodup_iff.1 l.own.2⟩
 have:=b.2 w p (hΦ p l.facts) l.sub (s.sub (List.sublist_append_left _ _))
 rw [← ha,Array.toArray_toList] at this
 refine ⟨fun _ _=>trivial,?_⟩
 rw [Oper.semAt_eq _ _ _ (fun c q=>by rw [y] at q;cases q),hr]
 refine ⟨A5p,(B1s this).mono fun e w' ⟨hw,j⟩=>?_⟩
 have t:StW X L2 Φ w':=by
  have:=StW.call l x hw
  simpa using this
 cases hR:R with
 | some r =>
  rw [hR] at j
  subst j
  exact hK _ _ (h1 r hR _ _ (g.put e3 (val r) t))
 | none =>
  rw [hR] at j
  subst j
  exact h2 hR a w' ⟨g.size,g.defers,g.has,t⟩
theorem A8e {ρ σ:Type} {o:Option ρ} {k:ρ→Option σ} {R:Option σ} {r:ρ} (h:Option.bind o k=R) (hr:o=some r):k r=R:=by subst hr;exact h
theorem A8b {ρ σ:Type} {o:Option ρ} {k:ρ→Option σ} {R:Option σ} (h:Option.bind o k=R) (hr:o=none):none=R:=by subst hr;exact h
theorem D1o {o:Oper} {T e sz a b:Nat} {agg:Bool} {x y:Operand} {m:Int} (i:P.underlying T=some (.array a e)) (j:Ty P e sz agg) (c:o.op=.indexAddr T x y)
  (f:ev E x=some (.pointer (some ⟨b,0,none⟩))) (h:ev E y=some (.int .i64 m)) (k:Nat) (g:m=k) (d:k<a):G7 P X o E L Φ (.pointer (some ⟨b,k * sz,none⟩)):=by
 have:=B8a (L:=L) (Φ:=Φ) (X:=X) i j c f h k g d
 rwa [Z4,Nat.zero_add] at this
abbrev Y8:Value:=.iface 236 (.agg #[])
theorem D3s {α:Type} {c:α→List Value} {sz:Nat} {q:Option Addr} {xs:List α} (h:R0 Φ (sl c q xs)) (l m:Nat) (b:∀ x,(c x).length=sz) (a:l≤xs.length) (d:xs.length≤m):R0 Φ (sl c (B8j q l sz m) (xs.drop l)) :=
 D6x h l xs.length m b (by rw [List.take_of_length_le oom]) a d
theorem D8f {o:Oper} {c:Call} {T e sz h:Nat} {x y:Operand} {α:Type} {f:α→List Value} {xs ys:List α} {qx qy:Option Addr} {n1 k1 m cc:Nat} (hT:ApTy P T e sz h) (hf:∀ x,(f x).length=sz) (al:∀ x,(f x).all (·.oneCell')=true)
  (ho:o.op=.call c) (hc:c.callee=.builtin .append) (a9:c.args=#[x,y]) (a1:c.argTypes=#[T,T]) (hx:ev E x=some (.slice qx n1 k1)) (hy:ev E y=some (.slice qy m cc)) (ao:n1=xs.length) (ar:k1=xs.length) (hm:m=ys.length)
  (a7:R0 Φ (sl f qx xs)) (s:R0 Φ (sl f qy ys)) (an:0<ys.length) (hb:(xs.length+ys.length) * h≤140737488355328) (a3:xs.length+ys.length≤9223372036854775807) :
  Tri P n X o E L Φ {r':VR // VOk sz (xs++ys).length r'} (fun r'=>vv r'.1 (xs++ys).length) (fun r'=>L++(vo f e r'.1 (xs++ys)++[])) (fun _=>Φ):=by
 subst ao ar hm
 cases qx with
 | none =>
  intro ac w K Q q hk
  obtain ⟨p,d⟩:=q.world
  have h0:xs=[]:=a7 p d.facts
  subst h0
  exact C3q (r:=VR.nil) (xs:=[]) (pre:=L) (post:=[]) hT hf al ho hc a9 a1 hx hy rfl (by simp [vo,VR.nil]) s VOk.nil hb a3 ac w K Q q hk
 | some a =>
  intro ac w K Q q hk
  obtain ⟨p,d⟩:=q.world
  cases qy with
  | none=>have h0:ys=[]:=s p d.facts;subst h0;simp at an
  | some a' =>
   have c1:A5k p a (xs.flatMap f):=a7 p d.facts
   have c2:A5k p a' (ys.flatMap f):=s p d.facts
   obtain ⟨i,hi,b⟩:=Option.map_eq_some_iff.1 hT.info
   simp only [Prod.mk.injEq] at b
   obtain ⟨h4,h5,h6⟩:=b
   obtain ⟨z,hz,h6⟩:=Option.map_eq_some_iff.1 h6
   have a8:0<sz:=by simpa [Nat.blt_eq] using hT.pos
   obtain ⟨v',w',a0,⟨az,au⟩,v⟩:=run_append_arg_grows (P:=P) w T o.type e i z sz h hT.ty hi hz h4 h5 h6 a8 a xs.length xs.length (xs.flatMap f) (F5 hf xs) (fun j u hj=>c1.cell d.sub hj)
    a' ys.length cc (ys.flatMap f) (F5 hf ys) (fun j u hj=>c2.cell d.sub hj) opx a3 hb
   have ai:KeptBut (([]:Own).map Prod.fst) w w':=⟨v.os,v.tape,v.output,v.size,fun k hk _=>v.block k hk oom⟩
   refine A7c (by rw [ho];rfl) ?_
   unfold Oper.wp
   rw [show (execOp ac.eval o).run P w=.ok (.value v') w' by
    simp [execOp,ho,resolve,hc,a9,a1,C4 q.has hx,C4 q.has hy,invoke,builtin,a0]]
   rcases au with ⟨rfl,b7⟩ | ⟨g,cap,cur,rfl,af,t,a4,a2,ap,l⟩
   ·omega
   ·have ak:StW X (L++([bx g ((xs++ys).flatMap f++cur.toList.drop ((xs.length+ys.length) * sz)) e]++[])) Φ w':=by
     refine StW.turn (L0:=[]) (show StW X (L++([]++[])) Φ w by simpa using q.world) ai ?_ oom
     intro e' he
     obtain rfl:e'=_:=by simpa using he
     refine ⟨?_,.inr af⟩
     simp only
     rw [t,← List.append_assoc,← l,List.take_append_drop]
    have:=hk ⟨⟨some g,cap,cur.toList.drop ((xs.length+ys.length) * sz)⟩,?_⟩ w' (by simpa [vo] using ak)
    ·simp only [vv,va,List.length_append] at this
     exact this
    ·have h9:(xs.length+ys.length) * sz≤cap * sz:=Nat.mul_le_mul_right _ a4
     refine ⟨?_,by simpa using a4,a2⟩
     simp only [List.length_drop,Array.length_toList,ap,List.length_append]
     omega
theorem C8m (s:List UInt8):byteCells (bs s)=s.flatMap cU8:=by
 simp only [byteCells,bs,cU8]
 induction s with
 | nil=>rfl
 | cons x s ih =>
  simp only [List.flatMap_cons]
  rw [← ih]
  rfl
theorem D2n {w:World} {T ty e:TypeId} {i:TypeInfo} (f:P.underlying T=some (.slice e)) (b:P.info? e=some i) (q a:Option Addr) (m k:Nat) (d:m≤k) (c:Nat):(Builtin.append_ #[T,T] ty #[.slice q m k,.slice a 0 c]).run P w=.ok (.slice q m k) w:=by
 cases q<;>cases a<;>simp [Builtin.append_,run_underlying f,sizeOf,typeInfo,b,Builtin.lenOf,Builtin.firstCells,d,storeCells,loadCells,loadCellsFrom]
theorem C3k {o:Oper} {c:Call} {T e sz d:Nat} {x y:Operand} {α:Type} {f:α→List Value} {xs ys:List α} {b qy:Option Addr} {n1 k1 m cc:Nat} (hT:ApTy P T e sz d) (hf:∀ x,(f x).length=sz) (a0:∀ x,(f x).all (·.oneCell')=true)
  (ho:o.op=.call c) (hc:c.callee=.builtin .append) (v:c.args=#[x,y]) (j:c.argTypes=#[T,T]) (hx:ev E x=some (.slice b n1 k1)) (hy:ev E y=some (.slice qy m cc)) (g:n1=xs.length) (h:k1=xs.length) (hm:m=ys.length)
  (s:R0 Φ (sl f b xs)) (a6:R0 Φ (sl f qy ys)) (hb:(xs.length+ys.length) * d≤140737488355328) (a5:xs.length+ys.length≤9223372036854775807) :
  Tri P n X o E L Φ {t:Option Addr×Nat // (xs++ys).length≤t.2} (fun t=>.slice t.1.1 (xs++ys).length t.1.2) (fun _=>L) (fun t=>sl f t.1.1 (xs++ys)::Φ):=by
 by_cases hys:0<ys.length
 ·intro z w K Q u hk
  refine D8f hT hf a0 ho hc v j hx hy g h hm s a6 hys hb a5 z w K Q u fun r w' hw=>?_
  have:=hk ⟨(va r.1.q,r.1.k),r.2.cap⟩ w' (by have:=hw.sealed (pre:=L) (post:=[]) r.2;simpa using this)
  exact this
 ·have h0:ys=[]:=by cases ys with | nil=>rfl | cons a l=>simp at hys
  subst h0
  subst g h hm
  intro z w K Q u hk
  obtain ⟨i,hi,_⟩:=Option.map_eq_some_iff.1 hT.info
  refine A7c (by rw [ho];rfl) ?_
  unfold Oper.wp
  rw [show (execOp z.eval o).run P w=.ok (.value (.slice b xs.length xs.length)) w by
   simp [execOp,ho,resolve,hc,v,j,C4 u.has hx,C4 u.has hy,invoke,builtin,D2n (P:=P) (ty:=o.type) hT.ty hi b qy xs.length xs.length (Nat.le_refl _) cc]]
  have:=hk ⟨(b,xs.length),by simp⟩ w (by
   obtain ⟨p,hp⟩:=u.world
   simp only [List.append_nil]
   exact ⟨p,{hp with facts:=fun q hq=>by rcases List.mem_cons.1 hq with rfl | hq;exact s p hp.facts;exact hp.facts q hq}⟩)
  exact (by simpa using this:K (z.put o.dst (.slice b xs.length xs.length)) w)
theorem C8u {w:World} {T tx ty e:TypeId} {i:TypeInfo} (h:P.underlying T=some (.slice e)) (g:P.info? e=some i) {b sLen sCap m TT:Nat} {x:Value} {news:List Value} {cur:Array Value} (d:Src P i.size tx x m news w)
  (j:w.heap[b]?=some (.cells cur TT (0,0))) (a:sLen+m≤sCap) (f:sLen * i.size+news.length≤cur.size) :
  (Builtin.append_ #[T,tx] ty #[.slice (some ⟨b,0,none⟩) sLen sCap,x]).run P w=.ok (.slice (some ⟨b,0,none⟩) (sLen+m) sCap) (w.setRow b (cur.toList.take (sLen * i.size)++news++cur.toList.drop (sLen * i.size+news.length)).toArray):=by
 have c:=run_storeCells_at P b (sLen * i.size) TT news 0 cur w j (by simpa using f) d.one
 simp only [Nat.add_zero] at c
 rcases d.kind with ⟨e',hk⟩ | hk<;>simp [Builtin.append_,run_underlying h,run_underlying hk,sizeOf,typeInfo,g,d.len,a,d.cells,Z4,c]
theorem B4w {o:Oper} {c:Call} {T U e:Nat} {x y:Operand} {r:VR} {xs s:List UInt8} {pre post:Own} (hT:ApTy P T e 1 1) (hz:(P.info? e).bind (·.zero)=some (.int .u8 0)) (hU:P.underlying U=some .string)
  (ho:o.op=.call c) (hc:c.callee=.builtin .append) (av:c.args=#[x,y]) (ak:c.argTypes=#[T,U]) (hx:ev E x=some (vv r xs.length)) (hy:ev E y=some (.string (bs s))) (hL:L=pre++(vo cU8 e r xs++post))
  (g:VOk 1 xs.length r) (hb:xs.length+s.length≤140737488355328) :
  Tri P n X o E L Φ {r':VR // VOk 1 (xs++s).length r'} (fun r'=>vv r'.1 (xs++s).length) (fun r'=>pre++(vo cU8 e r'.1 (xs++s)++post)) (fun _=>Φ):=by
 intro ac w K Q hs hk
 obtain ⟨i,hi,a0⟩:=Option.map_eq_some_iff.1 hT.info
 simp only [Prod.mk.injEq] at a0
 obtain ⟨h4,h5,h6⟩:=a0
 obtain ⟨i2,a9,ap⟩:=Option.bind_eq_some_iff.1 hz
 obtain rfl:i=i2:=by rw [hi] at a9;exact Option.some.inj a9
 have f:=fun w'=>Src.ofString (P:=P) w' hU (bs s)
 rw [C8m] at f
 have hw:=hs.world
 rw [hL] at hw
 have b3:(bs s).size=s.length:=rfl
 refine A7c (by rw [ho];rfl) ?_
 unfold Oper.wp
 have d:∀ v w',(Builtin.append_ #[T,U] o.type #[vv r xs.length,.string (bs s)]).run P w=.ok v w'→(execOp ac.eval o).run P w=.ok (.value v) w':=fun v w' h=>by
  simp [execOp,ho,resolve,hc,av,ak,C4 hs.has hx,C4 hs.has hy,invoke,builtin,h]
 obtain ⟨q,k,j⟩:=r
 by_cases hroom:xs.length+s.length≤k
 ·cases q with
  | none =>
   have h0:xs.length=0∧k=0:=g
   have aq:s=[]:=List.eq_nil_of_length_eq_zero opx
   have a4:xs=[]:=List.eq_nil_of_length_eq_zero h0.1
   obtain ⟨_,ah⟩:=h0
   subst aq a4 ah
   have:=run_append_nothing (P:=P) w T U o.type e i hT.ty hi none 0 0 (Nat.le_refl _) (.string (bs [])) (by have:=f w;rw [h4];exact this)
   rw [d _ _ this]
   exact hk ⟨⟨none,0,j⟩,g⟩ w (by simpa using hw)
  | some b =>
   have a8:xs.length * 1+j.length=k * 1∧xs.length≤k∧k≤maxLen:=g
   obtain ⟨p,hp⟩:=hw
   have z:=(hp.own.1 (bx b (xs.flatMap cU8++j) e) (List.mem_append_right _ (List.mem_append_left _ (by simp [vo])))).1
   have a:∀ l:List UInt8,(l.flatMap cU8).length=l.length:=fun l=>by rw [F5 (sz:=1) (fun _=>rfl)];omega
   have:=C8u (P:=P) (w:=w) (T:=T) (tx:=U) (ty:=o.type) hT.ty hi (b:=b) (sLen:=xs.length) (sCap:=k) (m:=s.length) (TT:=e) (x:=.string (bs s)) (news:=s.flatMap cU8) (cur:=(xs.flatMap cU8++j).toArray) (by rw [h4];exact f w) z hroom (by rw [h4];simp [a];omega)
   rw [d _ _ this]
   have e1:(((xs.flatMap cU8++j).toArray.toList.take (xs.length * i.size)++s.flatMap cU8++(xs.flatMap cU8++j).toArray.toList.drop (xs.length * i.size+(s.flatMap cU8).length)).toArray)=(((xs++s).flatMap cU8)++j.drop s.length).toArray:=by
    rw [h4,Nat.mul_one,a]
    simp only [List.flatMap_append]
    rw [List.take_append_of_le_length (by rw [a];omega),List.take_of_length_le (by rw [a];omega),List.drop_append,a,List.drop_of_length_le (by rw [a];omega),List.nil_append,show xs.length+s.length - xs.length=s.length by omega]
   rw [e1]
   have a1:KeptBut (([bx b (xs.flatMap cU8++j) e]:Own).map Prod.fst) w (w.setRow b (((xs++s).flatMap cU8)++j.drop s.length).toArray):=⟨rfl,rfl,rfl,by simp,fun k' aw hm=>setRow_other w b k' _ (by rintro rfl;exact hm oom)⟩
   have a2:StW X (pre++([bx b ((xs++s).flatMap cU8++j.drop s.length) e]++post)) Φ (w.setRow b (((xs++s).flatMap cU8)++j.drop s.length).toArray):=by
    refine StW.turn (L0:=[bx b (xs.flatMap cU8++j) e]) ⟨p,hp⟩ a1 ?_ oom
    intro e' he
    obtain rfl:e'=_:=by simpa using he
    refine ⟨?_,.inl oom⟩
    have:=setRow_heap w b _ (((xs++s).flatMap cU8)++j.drop s.length).toArray e (0,0) z
    simpa using this
   have:=hk ⟨⟨some b,k,j.drop s.length⟩,?_⟩ _ a2
   ·simp only [vv,va,List.length_append] at this
    exact this
   ·refine ⟨?_,by simpa using hroom,a8.2.2⟩
    simp only [List.length_drop,List.length_append];omega
 ·have hg:k<xs.length+s.length:=by omega
  have b0:0<i.size:=by rw [h4];exact Nat.one_pos
  obtain ⟨p,hp⟩:=hw
  have a:∀ l:List UInt8,(l.flatMap cU8).length=l.length:=fun l=>by rw [F5 (sz:=1) (fun _=>rfl)];omega
  have a6:∀ w':World,(w'.heap=w.heap)→(Builtin.firstCells i.size xs.length (.slice (va q) xs.length k)).run P w'=.ok (xs.flatMap cU8).toArray w':=by
   intro w' au
   cases q with
   | none =>
    have h0:xs.length=0∧k=0:=g
    have a4:xs=[]:=List.eq_nil_of_length_eq_zero h0.1
    subst a4
    simp [va,Builtin.firstCells]
   | some b =>
    have z:=(hp.own.1 (bx b (xs.flatMap cU8++j) e) (List.mem_append_right _ (List.mem_append_left _ (by simp [vo])))).1
    exact run_firstCells_some w' i.size xs.length ⟨b,0,none⟩ xs.length k (xs.flatMap cU8) (by rw [a,h4];omega) fun t u ht=>by
     rw [Z4]
     simp only [World.cell?,au,z,Nat.zero_add]
     rw [List.getElem?_toArray,List.getElem?_append_left (List.getElem?_eq_some_iff.1 ht).1]
     exact ht
  have hr:=run_append_grow_src (P:=P) w T U o.type e i (.int .u8 0) hT.ty hi ap (va q) xs.length k (xs.flatMap cU8) (a6 w.drew rfl) (.string (bs s)) s.length (s.flatMap cU8) (by rw [h4];exact f w) hg opx (growslice_fits hg (by rw [h5];omega))
  rw [d _ _ hr]
  have af:=grownCap_ge w (xs.length+s.length) k e
  have ai:grownCap w (xs.length+s.length) k e≤maxLen:=grownCap_le_maxLen w (xs.length+s.length) k e (by unfold maxLen;omega)
  have a1:KeptBut ((vo cU8 e ⟨q,k,j⟩ xs).map Prod.fst) w (w.drew.alloc (.cells ((xs.flatMap cU8++s.flatMap cU8).toArray++Builtin.zeroCells (Value.int .u8 0).cells (grownCap w (xs.length+s.length) k e - (xs.length+s.length))) e)) :=
   ⟨rfl,rfl,rfl,by simp,fun k' aw _=>(by show (w.heap.push _)[k']?=_;rw [Array.getElem?_push,if_neg opx])⟩
  have a2:StW X (pre++([bx w.heap.size ((xs++s).flatMap cU8++(Builtin.zeroCells (Value.int .u8 0).cells (grownCap w (xs.length+s.length) k e - (xs.length+s.length))).toList) e]++post)) Φ (w.drew.alloc (.cells ((xs.flatMap cU8++s.flatMap cU8).toArray++Builtin.zeroCells (Value.int .u8 0).cells (grownCap w (xs.length+s.length) k e - (xs.length+s.length))) e)):=by
   refine StW.turn (L0:=vo cU8 e ⟨q,k,j⟩ xs) ⟨p,hp⟩ a1 ?_ oom
   intro e' he
   obtain rfl:e'=_:=by simpa using he
   refine ⟨?_,.inr (Nat.le_refl _)⟩
   simp only
   rw [show (w.drew.alloc (Obj.cells ((xs.flatMap cU8++s.flatMap cU8).toArray++Builtin.zeroCells (Value.int .u8 0).cells (grownCap w (xs.length+s.length) k e - (xs.length+s.length))) e)).heap[w.heap.size]?=_ from heap_alloc_new w.drew _]
   simp [List.flatMap_append]
  have:=hk ⟨⟨some w.heap.size,grownCap w (xs.length+s.length) k e,(Builtin.zeroCells (Value.int .u8 0).cells (grownCap w (xs.length+s.length) k e - (xs.length+s.length))).toList⟩,?_⟩ _ a2
  ·simp only [vv,va,List.length_append] at this
   exact this
  ·refine ⟨?_,by simpa using af,ai⟩
   have al:(Value.int IntKind.u8 0).cells.size=1:=rfl
   simp only [Array.length_toList,size_zeroCells,al,List.length_append];omega
theorem B6e {n:Int}:Value.int .u8 (IntKind.u8.wrap n)=.int .u8 ((by8 (IntKind.u8.wrap n)).toNat:Int):=by
 rw [B6c]
 unfold IntKind.wrap
 simp [IntKind.bits,IntKind.signed]
 omega
theorem C1m {c:BinOp} {a b:Int}:Value.int .u8 (bOp c .u8 a b)=.int .u8 ((by8 (bOp c .u8 a b)).toNat:Int):=by
 unfold bOp;exact B6e
end
end Go.Fen
set_option linter.unusedVariables false
set_option linter.unusedSimpArgs false
namespace Go.Fen
open Go
theorem D5.append {α:Type} {rs b:List Slc} {xss a:List (List α)} (c:D5 rs xss) (e:D5 b a):D5 (rs++b) (xss++a):=by
 refine ⟨by simp [c.1,e.1],fun i r xs hr d=>?_⟩
 by_cases hi:i<rs.length
 ·rw [List.getElem?_append_left hi] at hr
  rw [List.getElem?_append_left (by have:=c.1;omega)] at d
  exact c.2 i r xs hr d
 ·have:=c.1
  rw [List.getElem?_append_right opx] at hr
  rw [List.getElem?_append_right opx] at d
  exact e.2 (i - rs.length) r xs hr (by rw [this];exact d)
theorem D5.set {α:Type} {rs:List Slc} {xss:List (List α)} (h:D5 rs xss) (k:Nat) {r:Slc} {xs:List α} (hr:r.n=xs.length∧r.n≤r.k∧xs.length≤9223372036854775807):D5 (rs.set k r) (xss.set k xs):=by
 refine ⟨by simp [h.1],fun i d c a b=>?_⟩
 rw [List.getElem?_set] at a b
 by_cases hk:k=i
 ·subst hk
  simp only [if_true] at a b
  split at a
  ·split at b
   ·obtain rfl:=Option.some.inj a
    obtain rfl:=Option.some.inj b
    exact hr
   ·cases b
  ·cases a
 ·simp only [hk,if_false] at a b
  exact h.2 i d c a b
section
variable {P:Program} {n:Nat} {X:Cx} {K:Act→World→Prop} {Q:Exit→Act→World→Prop} {E E':Env} {L L':Own} {Φ Φ':List Pers}
theorem D1m {α:Type} {c:α→List Value} {rs b:List Slc} {xss a:List (List α)} (h:rs.length=xss.length) (f:R0 Φ (I1 c rs xss)) (g:R0 Φ (I1 c b a)):R0 Φ (I1 c (rs++b) (xss++a)):=fun p e i r xs hr d=>by
 by_cases hi:i<rs.length
 ·rw [List.getElem?_append_left hi] at hr
  rw [List.getElem?_append_left opx] at d
  exact f p e i r xs hr d
 ·rw [List.getElem?_append_right opx] at hr
  rw [List.getElem?_append_right opx] at d
  exact g p e (i - rs.length) r xs hr (by rw [h];exact d)
theorem D6l {α:Type} {c:α→List Value} {rs:List Slc} {xss:List (List α)} (k:Nat) {r:Slc} {xs:List α} (e:R0 Φ (I1 c rs xss)) (g:R0 Φ (sl c r.q xs)):R0 Φ (I1 c (rs.set k r) (xss.set k xs)):=fun p d i f b hr a=>by
 rw [List.getElem?_set] at hr a
 by_cases hk:k=i
 ·subst hk
  simp only [if_true] at hr a
  split at hr
  ·split at a
   ·obtain rfl:=Option.some.inj hr
    obtain rfl:=Option.some.inj a
    exact g p d
   ·cases a
  ·cases hr
 ·simp only [hk,if_false] at hr a
  exact e p d i f b hr a
theorem V3 {o:Oper} {c:Call} {T e d:Nat} {x y:Operand} {α:Type} {cc:α→List Value} {r:VR} {rs ys:List Slc} {xss a:List (List α)} {q:Option Addr} {k m kk:Nat} {pre post:Own} (hT:ApTy P T e 1 d)
  (ho:o.op=.call c) (hc:c.callee=.builtin .append) (u:c.args=#[x,y]) (l:c.argTypes=#[T,T]) (hx:ev E x=some (vv r k)) (hk:k=xss.length) (hy:ev E y=some (.slice q m kk)) (hm:m=a.length) (hL:L=pre++(vo N1 e r rs++post))
  (hq:R0 Φ (sl N1 q ys)) (h1:R0 Φ (I1 cc rs xss)) (h2:R0 Φ (I1 cc ys a)) (s:D5 rs xss) (j:D5 ys a) (t:VOk 1 xss.length r) (hb:(xss.length+a.length) * d≤140737488355328) (a4:xss.length+a.length≤9223372036854775807) :
  Tri P n X o E L Φ {b:VR // VOk 1 (xss++a).length b} (fun b=>vv b.1 (xss++a).length) (fun b=>pre++(vo N1 e b.1 (rs++ys)++post)) (fun _=>I1 cc (rs++ys) (xss++a)::Φ):=by
 have g:=s.1
 have v:=j.1
 have e3:(rs++ys).length=(xss++a).length:=by simp [g,v]
 intro ac w K Q hs hK
 refine C3q (f:=N1) (xs:=rs) (ys:=ys) hT (fun _=>rfl) (fun _=>rfl) ho hc u l (by rw [g,← hk];exact hx) hy opx hL hq (by rw [g];exact t) (by rw [g,v];exact hb) opx ac w K Q hs fun b w' hw=>?_
 have:=hK ⟨b.1,e3▸b.2⟩ w' (by
  obtain ⟨p,h⟩:=hw
  exact ⟨p,{h with facts:=fun z i=>by rcases List.mem_cons.1 i with rfl | i;exact D1m g h1 h2 p h.facts;exact h.facts z i}⟩)
 simp only [e3]
 exact this
theorem D8o {e:Array Oper} {d:Nat} {b:Array Bool} {c:A0z} {Φs:List Pers} {q:Pers} (f:R0 Φ q) (h:JH P n X e d b K c Φs E L (q::Φ)):JH P n X e d b K c Φs E L Φ :=
 ⟨fun h1 h2 hsz hL hΦ a w hs=>h.go h1 h2 hsz hL (fun p g=>hΦ p (fun z i=>g z (List.mem_cons_of_mem _ i))) a w ⟨hs.size,hs.defers,hs.has,hs.world.fact q f⟩⟩
end
end Go.Fen
set_option linter.unusedVariables false
set_option linter.unusedSimpArgs false
namespace Go.Fen
open Go Go.RowKit
section
variable {P:Program} {n:Nat} {X:Cx} {K:Act→World→Prop} {Q:Exit→Act→World→Prop} {E E':Env} {L L':Own} {Φ Φ':List Pers}
theorem D9f {f:Array Oper} {e:Nat} {b:Array Bool} {d:A0z} {Φs:List Pers} {α:Type} {c:α→List Value} {T:Nat} {r:VR} {xs:List α} (pre post:Own) {sz:Nat} (g:VOk sz xs.length r) (l:L=pre++(vo c T r xs++post))
  (Lh:Own) (k:d.at b=Lh) (m:Lh.Sublist (pre++post)) (h:JH P n X f e b K d Φs E (pre++post) (sl c (va r.q) xs::Φ)):JH P n X f e b K d Φs E L Φ :=
 ⟨fun h1 h2 hsz _ hΦ a w hs=>h.go h1 h2 hsz (k▸m) (fun p i=>hΦ p (fun z j=>i z (List.mem_cons_of_mem _ j))) a w ⟨hs.size,hs.defers,hs.has,by have:=hs.world;rw [l] at this;exact this.sealed g⟩⟩
theorem C7w {α:Type} {c:α→List Value} {sz:Nat} (a:∀ x,(c x).length=sz) (d:α):∀ (xs:List α) (k:Nat),k<xs.length→((xs.flatMap c).drop (k * sz)).take sz=c (xs.getD k d)
 | [],k,h=>by simp at h
 | x::xs,0,_=>by simp [List.take_append_of_le_length,← a x]
 | x::xs,k+1,h=>by
  have:=C7w a d xs k (by simpa using h)
  rw [List.flatMap_cons,Nat.succ_mul,Nat.add_comm,← List.drop_drop,← a x,List.drop_left,a x,this];simp
theorem C7p {α:Type} {c:α→List Value} {sz:Nat} (e:∀ x,(c x).length=sz) (d:α) {xs:List α} {k j:Nat} (b:k<xs.length) (a:j<sz):(xs.flatMap c)[k * sz+j]?=(c (xs.getD k d))[j]?:=by
 rw [← C7w e d xs k b,List.getElem?_take,if_pos a,List.getElem?_drop]
theorem D8v {α:Type} {f:α→List Value} {sz:Nat} (a:∀ x,(f x).length=sz) (d:α) (n:Nat):(madeCells (f d).toArray (n * sz)).toList=(List.replicate n d).flatMap f:=by
 apply List.ext_getElem?
 intro i
 by_cases h0:sz=0
 ·have:(List.replicate n d).flatMap f=[]:=List.length_eq_zero_iff.1 (by rw [F5 a];simp [h0])
  rw [this];simp [madeCells,h0]
 ·by_cases hi:i<n * sz
  ·have g:i / sz<n:=by rw [Nat.div_lt_iff_lt_mul opx];exact hi
   have b:i % sz<sz:=Nat.mod_lt _ opx
   have e:i / sz * sz+i % sz=i:=by rw [Nat.mul_comm];exact Nat.div_add_mod i sz
   have c:=C7p a d (xs:=List.replicate n d) (k:=i / sz) (j:=i % sz) (by simpa using g) b
   rw [e] at c
   rw [c]
   have:(List.replicate n d).getD (i / sz) d=d:=by simp [List.getD_eq_getElem?_getD,List.getElem?_replicate,g]
   rw [this]
   simp [madeCells,hi,a,b]
  ·rw [List.getElem?_eq_none (by simp [madeCells];omega),List.getElem?_eq_none (by rw [F5 a];simp;omega)]
theorem C3t {o:Oper} {T e sz b l c:Nat} {x y:Operand} {α:Type} {f:α→List Value} (d:α) (hT:ApTy P T e sz b) (hz:((P.info? e).bind (·.zero)).map (·.cells)=some (f d).toArray) (hf:∀ x,(f x).length=sz)
  (ho:o.op=.makeSlice T x y) (hx:ev E x=some (.int .i64 (l:Int))) (hy:ev E y=some (.int .i64 (c:Int))) (r:l≤c) (hb:c * b≤140737488355328) (a9:c≤9223372036854775807) :
  Tri P n X o E L Φ {g:VR // VOk sz (List.replicate l d).length g} (fun g=>.slice (va g.1.q) (List.replicate l d).length g.1.k) (fun g=>L++(vo f e g.1 (List.replicate l d)++[])) (fun _=>Φ):=by
 intro ac w K Q s hk
 obtain ⟨i,hi,a⟩:=Option.map_eq_some_iff.1 hT.info
 simp only [Prod.mk.injEq] at a
 obtain ⟨h4,h5,h6⟩:=a
 obtain ⟨z,j,h7⟩:=Option.map_eq_some_iff.1 h6
 have m:z.cells=(f d).toArray:=by simpa [hi,j] using hz
 have t:(i.bytes:Int) * (c:Int)≤281474976710656:=by
  have h:((c * b:Nat):Int)≤140737488355328:=by omega
  rw [Int.natCast_mul,Int.mul_comm] at h
  rw [h5];omega
 have hr:=run_make (P:=P) w T e i z hT.ty hi j .i64 .i64 l c opx opx t opx
 simp only [Int.toNat_natCast,h4,m] at hr
 refine A7c (by rw [ho];rfl) ?_
 unfold Oper.wp
 rw [show (execOp ac.eval o).run P w=.ok (.value (.slice (some ⟨w.heap.size,0,none⟩) l c)) (w.alloc (.cells (madeCells (f d).toArray (c * sz)) e)) by
  simp [execOp,ho,C4 s.has hx,C4 s.has hy,hr]]
 have u:(madeCells (f d).toArray (c * sz)).toList=(List.replicate l d).flatMap f++(List.replicate (c - l) d).flatMap f:=by
  rw [D8v hf,← List.flatMap_append,List.replicate_append_replicate];congr 2;omega
 have p:((List.replicate (c - l) d).flatMap f).length=(c - l) * sz:=by rw [F5 hf,List.length_replicate]
 have:=hk ⟨⟨some w.heap.size,c,(List.replicate (c - l) d).flatMap f⟩,by
  refine ⟨?_,by simpa using r,by simp only [maxLen];omega⟩
  simp only [List.length_replicate,p,← Nat.add_mul];congr 1;omega⟩ (w.alloc (.cells (madeCells (f d).toArray (c * sz)) e)) (by
  refine StW.turn (L0:=[]) (show StW X (L++([]++[])) Φ w by simpa using s.world) ⟨rfl,rfl,rfl,by simp,fun k v _=>heap_alloc_old w _ v⟩ ?_ (by simp [vo])
  intro e' he
  obtain rfl:e'=_:=by simpa [vo] using he
  refine ⟨?_,.inr (Nat.le_refl _)⟩
  rw [← u]
  simpa using heap_alloc_new w (.cells (madeCells (f d).toArray (c * sz)) e))
 exact (by simpa [va] using this:K (ac.put o.dst (.slice (some ⟨w.heap.size,0,none⟩) l c)) (w.alloc (.cells (madeCells (f d).toArray (c * sz)) e)))
end
def C9 {α β:Type} (x:α) (k:α→β):β:=k x
theorem D0 {α β:Type} {x:α} {k:α→β} {R:β} (h:C9 x k=R):∃ r,x=r∧k r=R:=⟨x,rfl,h⟩
@[simp] theorem E3w {α β:Type} (x:α) (k:α→β):C9 x k=k x:=rfl
end Go.Fen
set_option linter.unusedVariables false
set_option linter.unusedSimpArgs false
namespace Go.Fen
open Go Go.RowKit
def E0w (x:Int):List Value:=[.int .u64 x]
def lkV (k:Int) (z:Value):List (Int×Value)→Value
 | []=>z
 | (a,v)::r=>bif decide (k=a) then v else lkV k z r
def O2 {α:Type} (k:Int):List (Int×α)→Bool
 | []=>false
 | (a,_)::r=>bif decide (k=a) then true else O2 k r
def lkB (k:Int) (z:Bool):List (Int×Bool)→Bool
 | []=>z
 | (a,v)::r=>bif decide (k=a) then v else lkB k z r
def B3:List (Int×Value)→Nat→List MapEntry
 | [],_=>[]
 | (a,v)::r,j=>⟨.int .i64 a,v,j⟩::B3 r (j+1)
theorem C0t (k:Int):∀ (l:List (Int×Value)) (j i:Nat),∃ r,Instr.findNow (.int .i64) (.int .i64 k) (B3 l j) i=some r ∧
  (r=none→O2 k l=false∧∀ z,lkV k z l=z)∧∀ p,r=some p→O2 k l=true∧∀ z,lkV k z l=p.2
 | [],j,i=>⟨none,rfl,fun _=>⟨rfl,fun _=>rfl⟩,fun _ h=>by cases h⟩
 | (a,v)::l,j,i=>by
  by_cases h:k=a
  ·refine ⟨some (i,v),?_,fun h=>(by cases h),fun p b=>?_⟩
   ·simp [B3,Instr.findNow,Instr.sameNow,h]
   ·cases b;simp [O2,lkV,h]
  ·obtain ⟨r,c,g,f⟩:=C0t k l (j+1) (i+1)
   refine ⟨r,?_,fun e=>?_,fun p b=>?_⟩
   ·have d:(k == a)=false:=by simpa using h
    simp only [B3,Instr.findNow,Instr.sameNow,if_true,d];exact c
   ·simpa [O2,lkV,h] using g e
   ·simpa [O2,lkV,h] using f p b
section
variable {P:Program} {n:Nat} {X:Cx} {K:Act→World→Prop} {Q:Exit→Act→World→Prop} {E E':Env} {L L':Own} {Φ Φ':List Pers}
theorem E2e {α:Type} {c:α→List Value} {a:Addr} {xs:List α} {us:List Value} (j:Nat) (h:Φ[j]?=some (sl c (some a) xs)) (d:xs.flatMap c=us):R0 Φ (at_ a us) :=
 fun p b=>d▸(show A5k p a (xs.flatMap c) from b _ (List.mem_of_getElem? h))
theorem D0b {o:Oper} {T kt e:Nat} {m q:Operand} {b:Nat} {k:Int} {z:Value} {es:Array MapEntry} {g:Nat} (l:List (Int×Value)) (a:MapTy P T kt e (.int .i64)) (h:o.op=.lookup T m q false) (s:ev E m=some (.map (some b))) (n:ev E q=some (.int .i64 k))
  (i:Nat) (hi:L[i]?=some (b,.map es g)) (x:es.toList=B3 l 0) (u:(P.info? e).bind (·.zero)=some z):G7 P X o E L Φ (lkV k z l):=.of_run fun ac w c hw=>by
 have t:=B9v hw hi
 obtain ⟨a0,h1,h2⟩:=Option.bind_eq_some_iff.1 u
 have f:(zeroValue e).run P w=.ok z w:=by simp [zeroValue,A7m h1,h2]
 obtain ⟨r,d,y,hs⟩:=C0t k l 0 0
 rw [← x] at d
 cases r with
 | none =>
  rw [(y rfl).2]
  simp [execOp,h,C4 c s,C4 c n,Instr.lookup,run_underlying a.ty,D2h t,A1t a,A3i a d,f]
 | some p =>
  rw [(hs p rfl).2]
  obtain ⟨j,v⟩:=p
  simp [execOp,h,C4 c s,C4 c n,Instr.lookup,run_underlying a.ty,D2h t,A1t a,A3i a d]
theorem S9 {o:Oper} {T kt e:Nat} {m s:Operand} {b:Nat} {k:Int} {z:Value} {es:Array MapEntry} {g:Nat} (l:List (Int×Value)) (a:MapTy P T kt e (.int .i64)) (h:o.op=.lookup T m s true) (u:ev E m=some (.map (some b))) (n:ev E s=some (.int .i64 k))
  (i:Nat) (hi:L[i]?=some (b,.map es g)) (he:es.toList=B3 l 0) (y:(P.info? e).bind (·.zero)=some z):G7 P X o E L Φ (.tuple #[lkV k z l,.bool (O2 k l)]):=.of_run fun ac w c hw=>by
 have x:=B9v hw hi
 obtain ⟨a1,h1,h2⟩:=Option.bind_eq_some_iff.1 y
 have f:(zeroValue e).run P w=.ok z w:=by simp [zeroValue,A7m h1,h2]
 obtain ⟨r,d,q,t⟩:=C0t k l 0 0
 rw [← he] at d
 cases r with
 | none =>
  rw [(q rfl).2,(q rfl).1]
  simp [execOp,h,C4 c u,C4 c n,Instr.lookup,run_underlying a.ty,D2h x,A1t a,A3i a d,f]
 | some p =>
  rw [(t p rfl).2,(t p rfl).1]
  obtain ⟨j,v⟩:=p
  simp [execOp,h,C4 c u,C4 c n,Instr.lookup,run_underlying a.ty,D2h x,A1t a,A3i a d]
theorem D3n (F:Value→Value→Value) (k:Int) (z1 z2:Value):∀ (l:List (Int×Value×Value)),lkV k (F z1 z2) (l.map fun x=>(x.1,F x.2.1 x.2.2))=F (lkV k z1 (l.map fun x=>(x.1,x.2.1))) (lkV k z2 (l.map fun x=>(x.1,x.2.2)))
 | []=>rfl
 | (a,u,v)::l=>by
  simp only [List.map_cons,lkV]
  cases decide (k=a) with
  | true=>rfl
  | false=>exact D3n F k z1 z2 l
theorem C7f (F:Value→Value→Value→Value) (k:Int) (z1 z2 z3:Value):∀ (l:List (Int×Value×Value×Value)),lkV k (F z1 z2 z3) (l.map fun x=>(x.1,F x.2.1 x.2.2.1 x.2.2.2)) =
  F (lkV k z1 (l.map fun x=>(x.1,x.2.1))) (lkV k z2 (l.map fun x=>(x.1,x.2.2.1))) (lkV k z3 (l.map fun x=>(x.1,x.2.2.2)))
 | []=>rfl
 | (a,u,v,w)::l=>by
  simp only [List.map_cons,lkV]
  cases decide (k=a) with
  | true=>rfl
  | false=>exact C7f F k z1 z2 z3 l
theorem D0c (k:Int) (z:Bool):∀ (l:List (Int×Bool)),lkV k (.bool z) (l.map fun x=>(x.1,.bool x.2))=.bool (lkB k z l)
 | []=>rfl
 | (a,v)::l=>by
  simp only [List.map_cons,lkV,lkB]
  cases decide (k=a) with
  | true=>rfl
  | false=>exact D0c k z l
def C1 (P:Program) (a:Value) (args:List Value) (Φ0:List Pers) (v:Value):Prop :=
 ∃ (k:FuncId) (first cap:Array Value),a=.func (.func k) first cap∧G3 P k ((first++args.toArray++cap).toList) Φ0 v
theorem C1.of {k:FuncId} {first cap:Array Value} {args a:List Value} {Φ0 Φ1:List Pers} {v:Value} (h:G3 P k a Φ1 v) (f:(first++args.toArray++cap).toList=a) (e:B0 Φ0 Φ1):C1 P (.func (.func k) first cap) args Φ0 v :=
 ⟨k,first,cap,rfl,f▸⟨h.1,fun w p b d c=>h.2 w p (e p b) d c⟩⟩
theorem C1.cons {ρ:Type} (val:ρ→Value) {k a:Int} {z v:Value} {l:List (Int×Value)} {args:List Value} {Φ0:List Pers} {b c:ρ} (h:O2 k ((a,v)::l)=true) (d:k=a→C1 P v args Φ0 (val b)) (f:O2 k l=true→¬ k=a→C1 P (lkV k z l) args Φ0 (val c)) :
  C1 P (lkV k z ((a,v)::l)) args Φ0 (val (bif decide (k=a) then b else c)):=by
 by_cases e:k=a
 ·simpa [lkV,e] using d e
 ·simpa [lkV,e] using f (by simpa [O2,e] using h) e
theorem C1.nil {k:Int} {z v:Value} {args:List Value} {Φ0:List Pers} (h:O2 k ([]:List (Int×Value))=true):C1 P z args Φ0 v:=by cases h
theorem P4 {o:Oper} {c:Call} {e:Operand} {a:Value} {f:List Value} {Φ0:List Pers} {v:Value}
  (d:C1 P a f Φ0 v) (g:o.op=.call c) (i:c.callee=.value e) (j:ev E e=some a) (b:c.args.toList.mapM (ev E)=some f) (hΦ:B0 Φ Φ0):Det P X o E L Φ v:=by
 obtain ⟨k,first,cap,rfl,h⟩:=d
 exact N3 h g i j b rfl hΦ
def C1v (P:Program) (a:Value) (args:List Value) (Φ0:List Pers) {ρ:Type} (pv:Value) (R:Option ρ) (val:ρ→Value):Prop :=
 ∃ (k:FuncId) (first cap:Array Value),a=.func (.func k) first cap∧B8x P k ((first++args.toArray++cap).toList) [] Φ0 pv R val
theorem C1v.of {k:FuncId} {first cap:Array Value} {args a:List Value} {Φ0 Φ1:List Pers} {ρ:Type} {pv:Value} {R:Option ρ} {val:ρ→Value} (h:B8x P k a [] Φ1 pv R val) (e:(first++args.toArray++cap).toList=a) (f:B0 Φ0 Φ1):C1v P (.func (.func k) first cap) args Φ0 pv R val :=
 ⟨k,first,cap,rfl,e▸⟨h.1,fun w p b d c=>h.2 w p (f p b) d c⟩⟩
theorem C1v.cons {ρ:Type} {pv:Value} {val:ρ→Value} {k a:Int} {z v:Value} {l:List (Int×Value)} {args:List Value} {Φ0:List Pers} {b c:Option ρ} (h:O2 k ((a,v)::l)=true) (d:k=a→C1v P v args Φ0 pv b val) (f:O2 k l=true→¬ k=a→C1v P (lkV k z l) args Φ0 pv c val) :
  C1v P (lkV k z ((a,v)::l)) args Φ0 pv (bif decide (k=a) then b else c) val:=by
 by_cases e:k=a
 ·simpa [lkV,e] using d e
 ·simpa [lkV,e] using f (by simpa [O2,e] using h) e
theorem C1v.nil {k:Int} {z:Value} {args:List Value} {Φ0:List Pers} {ρ:Type} {pv:Value} {R:Option ρ} {val:ρ→Value} (h:O2 k ([]:List (Int×Value))=true):C1v P z args Φ0 pv R val:=by cases h
theorem oiu {p:Prop} (h:p:=by assumption):p:=h
theorem D6u {β:Type} {c:β→List Value} {n:Nat}:R0 Φ (I1 c (List.replicate n (⟨none,0,0⟩:Slc)) (List.replicate n ([]:List β))):=fun p d i r xs a b=>by
 rw [List.getElem?_replicate] at a b
 split at a
 ·cases a;rw [if_pos oiu] at b;cases b;exact rfl
 ·cases a
theorem D5.rep {β:Type} (n:Nat):D5 (List.replicate n (⟨Option.none,0,0⟩:Slc)) (List.replicate n ([]:List β)):=⟨by simp,fun i r xs a b=>by
 rw [List.getElem?_replicate] at a b
 split at a
 ·cases a;rw [if_pos oiu] at b;cases b;exact ⟨rfl,Nat.le_refl _,by simp⟩
 ·cases a⟩
end
end Go.Fen
set_option linter.unusedVariables false
set_option linter.unusedSimpArgs false
namespace Go.Fen
open Go Go.RowKit
def C0m (P:Program) (l:Nat) (v a:Value) (L:Own) (Φ:List Pers) (post:Bool→Own→List Pers→Prop):Prop :=
 ∀ (w:World) (h:Hp),(∀ q ∈ Φ,q.p h)→h.sub w→A0u L h w →
  YieldAt Fence.wide 0 P l #[v,a] w fun e w'=>∃ b L' Φ',e=.returned (.bool b)∧post b L' Φ'∧StW (cx w h (L.map Prod.fst)) L' Φ' w'
def C4n (P:Program) (a:FuncId) (c:List Value) (Φ0:List Pers) {β:Type} (enc enc2:β→Value) (xs:List β):Prop :=
 HasBody P a∧∀ (l:Nat) (w:World) (h:Hp) (I:List β→Own→List Pers→Prop) (Ix:Own→List Pers→Prop) (L:Own) (Φ:List Pers),I xs L Φ→(∀ q ∈ Φ0,q.p h)→(∀ q ∈ Φ,q.p h)→h.sub w→A0u L h w →
  (∀ x rest L Φ,I (x::rest) L Φ→C0m P l (enc x) (enc2 x) L Φ fun b L' Φ'=>if b then I rest L' Φ' else Ix L' Φ') →
  Calls P a (#[.func (.yield l) #[] #[]]++c.toArray) w fun e w'=>(∃ v,e=.returned v)∧∃ L' Φ',(I [] L' Φ'∨Ix L' Φ')∧StW (cx w h (L.map Prod.fst)) L' Φ' w'
section
variable {P:Program} {n:Nat} {X:Cx} {K:Act→World→Prop} {Q:Exit→Act→World→Prop} {E E':Env} {L L':Own} {Φ Φ':List Pers}
theorem D3e {s:FuncId} {i:Func} {c:Code} {a:List Value} {Φ0:List Pers} {β:Type} {enc enc2:β→Value} {xs:List β}
  (o : P.funcs[s]? = some i) (k : i.body = some c) (m : (i.name == "runtime.NumGoroutine") = false) (r : i.ntmps = n) (j : Nat.ble (a.length + 1) n = true) (E0 : Nat → Env) (hE : ∀ l, S5 ((List.range (a.length + 1)).zip (.func (.yield l) #[] #[] :: a)) (E0 l))
  (h:∀ (X:Cx) (l:Nat) (I:List β→Own→List Pers→Prop) (Ix:Own→List Pers→Prop) (L:Own) (Φ:List Pers),X.M=L.map Prod.fst→X.rho=none→X.D=[]→I xs L Φ →
   (∀ x rest L Φ,I (x::rest) L Φ→C0m P l (enc x) (enc2 x) L Φ fun b L' Φ'=>if b then I rest L' Φ' else Ix L' Φ')→J P n X c (D1e P X i fun L' Φ'=>I [] L' Φ'∨Ix L' Φ') (E0 l) (L++[]) (Φ0++Φ)):C4n P s a Φ0 enc enc2 xs:=by
 refine ⟨⟨by simp [o,k,m]⟩,fun l w p I Ix L Φ hI hΦ0 hΦ hs ho hy=>?_⟩
 have f:(#[.func (.yield l) #[] #[]]++a.toArray:Array Value)=(Value.func (.yield l) #[] #[]::a).toArray:=by simp
 rw [f]
 simp only [List.append_nil] at h
 refine (callsIn_wide (n:=0)).1 (callsIn_of_wp_marks (F:=Fence.wide) o k trivial (h (cx w p (L.map Prod.fst)) l I Ix L Φ rfl rfl rfl hI hy _ w ⟨?_,rfl,?_,p,⟨?_,hs,Hp.le_refl p,fun b k=>.inl k,ho,fun e u=>.inl (List.mem_map_of_mem u),KeptBut.refl _ w,fun d v=>(by cases v)⟩⟩))
 ·have t:a.length+1≤n:=Nat.le_of_ble_eq_true j
  simp [r];omega
 ·rw [r]
  exact B5y (args:=Value.func (.yield l) #[] #[]::a) j (hE l)
 ·intro q g
  rcases List.mem_append.1 g with g | g
  ·exact hΦ0 q g
  ·exact hΦ q g
theorem D1z {o:Oper} {c:Call} {y:Operand} {l:Nat} {v v2:Value} {L0 L2:Own} {Φ0:List Pers} {post:Bool→Own→List Pers→Prop} (hy:C0m P l v v2 L0 Φ0 post)
  (x:o.op=.call c) (r:c.callee=.value y) (hf:ev E y=some (.func (.yield l) #[] #[])) (k:c.args.toList.mapM (ev E)=some [v,v2]) (hΦ:B0 Φ Φ0) (t:L.Perm (L0++L2)) :
  Tri P n X o E L Φ {σ:Bool×Own×List Pers // post σ.1 σ.2.1 σ.2.2} (fun σ=>.bool σ.1.1) (fun σ=>σ.1.2.1++L2) (fun σ=>σ.1.2.2++Φ):=by
 intro a w K Q u hk
 obtain ⟨p,m⟩:=u.world
 have q:A0u (L0++L2) p w:=⟨fun e he=>m.own.1 e (t.symm.subset he),(t.map Prod.fst).nodup_iff.1 m.own.2⟩
 obtain ⟨z,g,d,i,s,f⟩:=hy w p (hΦ p m.facts) m.sub (q.sub (List.sublist_append_left _ _))
 have hr:(execOp a.eval o).run P w=.ok (.round l z g d i) w:=by
  simp [execOp,x,resolve,r,C4 u.has hf,Deferred.ofValue,A7b u.has k,invoke,s]
 refine ⟨fun _ _=>trivial,?_⟩
 rw [Oper.semAt_eq _ _ _ (fun c r=>by rw [x] at r;cases r),hr]
 refine ⟨A5p,?_⟩
 have hR:RoundIn (FW X.rho) 0 P l z g d i w _:=f
 refine hR.mono fun e w' hx=>?_
 obtain ⟨b,L',Φ',rfl,j,hw⟩:=hx
 exact hk ⟨(b,L',Φ'),j⟩ w' (StW.call m t hw)
theorem D6z {g:Operand} {p p2:Nat} {ps:Array Tmp} {assign body:Code} {gf:FuncId} {lb:List Value} {Φ0:List Pers} {β:Type} {enc enc2:β→Value} {xs:List β}
  (ae:X.rho=none) (hg:ev E g=some (.func (.func gf) #[] lb.toArray)) (aq:C4n P gf lb Φ0 enc enc2 xs) (hΦ0:B0 Φ Φ0) (b4:ps=#[p,p2]) (b2:X1 n (some p)=true) (ar:X1 n (some p2)=true)
  {σ:Type} (I:List β→σ→Prop) (Jx:Code→σ→Prop) (Lk:σ→Own) (Φk:σ→List Pers) (s0:σ) (h0:I xs s0) (hL:(Lk s0).Sublist L) (hΦ:B0 Φ (Φk s0))
  (a5:∀ x rest s,I (x::rest) s→∀ (Y Y':Cx) (K:Act→World→Prop),Y.rho.isSome=true →
   (∀ E L Φ,J P n Y' body (RP Y' I Jx Lk Φk rest) E L Φ→JQ n Y K E L Φ)→J P n Y assign (Exit.then K (fun _ _ _=>False)) (Env.put (Env.put E (some p) (enc x)) (some p2) (enc2 x)) (Lk s) (Φk s))
  (a6:∀ d s,d ∉ X.D.map Prod.fst→I [] s→JQ n (X.wd ((d,.deferred (some []))::X.D)) (Q .normal) E (Lk s) (Φk s))
  (al:∀ d c s,d ∉ X.D.map Prod.fst→Jx c s→J P n (X.wd ((d,.deferred (some []))::X.D)) c Q E (Lk s) (Φk s)):J P n X (.rangeFunc g ps assign body) Q E L Φ:=by
 intro a w l
 subst b4
 rw [ae]
 refine wpIn_rangeFunc ?_
 intro fn _
 obtain ⟨f,hrec⟩:∃ f:LoopState→Option Code→Loop,f=fun st y=>{state:=st,pending:=y,fn,tmps:=a.tmps,params:=#[p,p2],assign,body,defers:=w.heap.size}:=⟨_,rfl⟩
 have he:=run_enterLoop_outer (P:=P) (w:=w) fn a.tmps #[p,p2] assign body
 rw [show ({state:=.ready,pending:=none,fn:=fn,tmps:=a.tmps,params:=#[p,p2],assign:=assign,body:=body,defers:=w.heap.size}:Loop)=f .ready none by rw [hrec]] at he
 obtain ⟨w1,hw1⟩:∃ w1,(w.alloc (.deferred (some []))).alloc (.loop (f .ready none))=w1:=⟨_,rfl⟩
 rw [hw1] at he
 refine ⟨w.heap.size+1,[B7g w.heap.size],w1,{target:=.fn (.func gf) lb.toArray,args:=#[.func (.yield (w.heap.size+1)) #[] #[]]},w1,gf,
  #[.func (.yield (w.heap.size+1)) #[] #[]]++lb.toArray,w1,he,?_,fun _ _=>trivial,?_,A5p,?_⟩
 ·simp only [resolve,C4 l.has hg]
  simp [go_sem]
 ·simp [invoke,A0p aq.1]
 ·-- the caller's state,the two blocks laid
  have ak:StW X ((w.heap.size+1,.loop (f .ready none))::(w.heap.size,.deferred (some []))::Lk s0) Φ w1:=by
   have h1:=(l.world.sub hL).alloc (.deferred (some []))
   have h2:=h1.alloc (.loop (f .ready none))
   rw [World.size_alloc,hw1] at h2
   exact h2
  have ap:w.heap.size ∉ X.D.map Prod.fst:=fun hm=>by
   obtain ⟨e,af,hE⟩:=List.mem_map.1 hm
   obtain ⟨q,hq⟩:=l.world
   have:=(Array.getElem?_eq_some_iff.1 (hq.res e af).1).1
   omega
  obtain ⟨q,hq⟩:=ak
  have bk:w.heap.size+1<w1.heap.size:=(Array.getElem?_eq_some_iff.1 (hq.own.1 _ (List.mem_cons_self ..)).1).1
  let It:List β→Own→List Pers→Prop:=fun rem L Φ=>∃ s,I rem s∧L=(w.heap.size+1,.loop (f .ready none))::(w.heap.size,.deferred (some []))::Lk s∧Φ=Φk s
  let Itx:Own→List Pers→Prop:=fun L Φ=>∃ c s,Jx c s∧L=(w.heap.size+1,.loop (f .done (some c)))::(w.heap.size,.deferred (some []))::Lk s∧Φ=Φk s
  have ah:=aq.2 (w.heap.size+1) w1 q It Itx _ (Φk s0) ⟨s0,h0,rfl,rfl⟩ (hΦ0 q hq.facts) (hΦ q hq.facts) hq.sub hq.own ?_
  ·refine B1s (ah.mono fun e w' hx=>?_)
   obtain ⟨⟨v,rfl⟩,L',Φ',hI,b7⟩:=hx
   have av:=StW.call (L0:=(w.heap.size+1,.loop (f .ready none))::(w.heap.size,.deferred (some []))::Lk s0) (L2:=[]) hq oom b7
   rw [List.append_nil] at av
   have u:∀ (st:LoopState) (y:Option Code) (s:σ),st≠.busy→L'=(w.heap.size+1,.loop (f st y))::(w.heap.size,.deferred (some []))::Lk s→Φ'=Φk s →
     (Instr.endLoop (w.heap.size+1)).run P w'=.ok y (w'.putObj (w.heap.size+1) (.loop {f st y with state:=.exhausted})) ∧
     St n (X.wd ((w.heap.size,.deferred (some []))::X.D)) E (Lk s) (Φk s) {a with defers:=[B7g w.heap.size]++a.defers} (w'.putObj (w.heap.size+1) (.loop {f st y with state:=.exhausted})):=fun st y s ak m hΦ'=>by
    subst m hΦ'
    obtain ⟨q2,ad⟩:=av
    have hl:=(ad.own.1 _ (List.mem_cons_self ..)).1
    simp only at hl
    have i:=run_endLoop (P:=P) hl (by rw [hrec];exact ak)
    rw [hrec] at i ⊢
    refine ⟨i,⟨l.size,?_,l.has,?_⟩⟩
    ·show [B7g w.heap.size]++a.defers=_
     rw [l.defers]
     unfold Cx.marks Cx.wd
     simp only [ae];rfl
    ·have z:StW X ((w.heap.size,.deferred (some []))::Lk s) (Φk s++Φ) (w'.putObj (w.heap.size+1) (.loop {f st y with state:=.exhausted})):=by
      have h4:=StW.reserve (X:=X) ⟨q2,ad⟩
      have a9:=ad.own.2
      have h5:=StW.take (X:=X) (d:=(w.heap.size+1,.loop (f st y))) (ds:=X.D) ?_ (.loop {f st y with state:=.exhausted}) h4
      ·exact h5
      ·intro hm
       obtain ⟨e,af,hE⟩:=List.mem_map.1 hm
       obtain ⟨q3,a4⟩:=l.world
       have:=(Array.getElem?_eq_some_iff.1 (a4.res e af).1).1
       simp only at hE;omega
     rw [hrec] at z
     exact z.reserve.foll fun p hp q hq=>hp q (List.mem_append_left _ hq)
   rcases hI with ⟨s,hI,m,hΦ'⟩ | ⟨c,s,hI,m,hΦ'⟩
   ·obtain ⟨i,ai⟩:=u .ready none s oom m hΦ'
    exact ⟨none,_,i,a6 _ s ap hI _ _ ai⟩
   ·obtain ⟨i,ai⟩:=u .done (some c) s oom m hΦ'
    have h6:=al _ c s ap hI _ _ ai
    have:(X.wd ((w.heap.size,.deferred (some []))::X.D)).rho=none:=ae
    rw [this] at h6
    exact ⟨some c,_,i,h6⟩
  ·-- one round
   rintro x rest L0 Φ0 ⟨s,hIs,rfl,rfl⟩ wr hr hfr hsr hor
   have hl:=(hor.1 _ (List.mem_cons_self ..)).1
   simp only at hl
   have hy:=run_yield (P:=P) (args:=#[enc x,enc2 x]) hl (by rw [hrec];rfl)
   rw [hrec] at hy
   refine ⟨_,_,assign,body,hy,roundIn_of_wpIn trivial ?_⟩
   have b6:w.heap.size+1≠w.heap.size:=by omega
   let M0:List Nat:=(w.heap.size+1)::w.heap.size::(Lk s).map Prod.fst
   let Y:Cx:=⟨wr,hr,M0,some (w.heap.size+1),[(w.heap.size+1,.loop (f .ready none)),(w.heap.size,.deferred (some []))]⟩
   let Y':Cx:=⟨wr,hr,M0,some (w.heap.size+1),[(w.heap.size+1,.loop {f .ready none with state:=.busy}),(w.heap.size,.deferred (some []))]⟩
   have hb:=a5 x rest s hIs Y Y' (fun a₁ w₁=>∃ w₂,(Instr.beginRound (w.heap.size+1)).run P w₁=.ok () w₂∧body.wpIn (Fence.wide.inRound (w.heap.size+1)) 0 P
    (roundPost P (w.heap.size+1) fun e w'=>∃ b L' Φ',e=.returned (.bool b)∧(if b then It rest L' Φ' else Itx L' Φ')∧StW (cx wr hr M0) L' Φ' w') a₁ w₂) rfl ?_
   ·refine hb _ wr ⟨?_,rfl,?_,hr,⟨hfr,hsr,Hp.le_refl hr,fun b hb=>.inl hb,hor.sub ((List.sublist_cons_self _ _).trans (List.sublist_cons_self _ _)),fun e he=>.inl ?_,KeptBut.refl _ _,fun d hd=>?_⟩⟩
    ·have:a.tmps.size=n:=l.size
     simp [this]
    ·have h1:=l.has.put (d:=p) (by rw [l.size];simpa [X1,Nat.blt_eq] using b2) (enc x)
     have:=h1.put (d:=p2) (by rw [Act.put_size,l.size];simpa [X1,Nat.blt_eq] using ar) (enc2 x)
     exact fun t v e=>by simpa [Act.put] using this t v e
    ·exact List.mem_cons_of_mem _ (List.mem_cons_of_mem _ (List.mem_map_of_mem he))
    ·have a9:=hor.2
     simp only [List.map_cons,List.nodup_cons,List.mem_cons,not_or] at a9
     simp only [Y,List.mem_cons,List.not_mem_nil,or_false] at hd
     rcases hd with rfl | rfl
     ·exact ⟨hl,(hor.1 _ (List.mem_cons_self ..)).2,fun e he hE=>a9.1.2 (by simp only at hE;rw [← hE];exact List.mem_map_of_mem he),.inr (by simp [Y,M0])⟩
     ·have h1:=hor.1 _ (List.mem_cons_of_mem _ (List.mem_cons_self ..))
      exact ⟨h1.1,h1.2,fun e he hE=>a9.2.1 (by simp only at hE;rw [← hE];exact List.mem_map_of_mem he),.inr (by simp [Y,M0])⟩
   ·-- the record turns to busy;the body;the record turns back
    intro E1 L1 Φ1 hJ a1 w2 hs1
    obtain ⟨q1,b5⟩:=hs1.world
    have au:=(b5.res (w.heap.size+1,.loop (f .ready none)) (by simp [Y])).1
    simp only at au
    refine ⟨_,run_beginRound au (by rw [hrec]),?_⟩
    have ax:StW Y' L1 Φ1 (w2.putObj (w.heap.size+1) (.loop {f .ready none with state:=.busy})):=by
     have:=StW.reput (X:=Y) (d:=w.heap.size+1) (o:=.loop (f .ready none)) (o':=.loop {f .ready none with state:=.busy}) (ds:=[(w.heap.size,.deferred (some []))]) oom hs1.world
     exact this
    have ab:=hJ a1 _ ⟨hs1.size,hs1.defers,hs1.has,ax⟩
    refine Code.wpIn_mono (fun e a2 w3 hp=>?_) ab
    have am:∀ (j:Option Code) (k:σ),StW Y' (Lk k) (Φk k) w3 →
      (Instr.endRound (w.heap.size+1) j).run P w3=.ok (.bool j.isNone) (w3.putObj (w.heap.size+1) (.loop (f (if j.isNone then .ready else .done) j))) ∧
      StW (cx wr hr M0) ((w.heap.size+1,.loop (f (if j.isNone then .ready else .done) j))::(w.heap.size,.deferred (some []))::Lk k) (Φk k) (w3.putObj (w.heap.size+1) (.loop (f (if j.isNone then .ready else .done) j))):=fun j k z=>by
     obtain ⟨q3,a4⟩:=z
     have aw:=(a4.res (w.heap.size+1,.loop {f .ready none with state:=.busy}) (by simp [Y'])).1
     simp only at aw
     have i:=run_endRound (P:=P) j aw
     refine ⟨by rw [hrec] at i ⊢;exact i,?_⟩
     have h4:=StW.reput (X:=Y') (d:=w.heap.size+1) (o:=.loop {f .ready none with state:=.busy}) (o':=.loop (f (if j.isNone then .ready else .done) j)) (ds:=[(w.heap.size,.deferred (some []))]) oom ⟨q3,a4⟩
     exact StW.unres oom h4
    cases e with
    | normal =>
     obtain ⟨k,r,z⟩:=hp
     obtain ⟨i,h4⟩:=am none k z
     exact ⟨_,_,i,true,_,_,rfl,⟨k,r,rfl,rfl⟩,h4⟩
    | ret =>
     obtain ⟨k,r,z⟩:=hp
     obtain ⟨i,h4⟩:=am (some .ret) k z
     exact ⟨_,_,i,false,_,_,rfl,⟨.ret,k,r,rfl,rfl⟩,h4⟩
    | exit id =>
     obtain ⟨k,r,z⟩:=hp
     obtain ⟨i,h4⟩:=am (some (.exit id)) k z
     exact ⟨_,_,i,false,_,_,rfl,⟨.exit id,k,r,rfl,rfl⟩,h4⟩
    | goto t=>exact hp.elim
    | panic c=>exact hp.elim
    | outgrown=>exact hp.elim
end
end Go.Fen
set_option linter.unusedVariables false
set_option linter.unusedSimpArgs false
namespace Go.Fen
open Go Go.RowKit Go.ChangeShapes
section
variable {P:Program}
def Cod (P:Program) (T:TypeId) (α:Type) (c:α→List Value) (D:{H:Type}→DataW H→α→Prop) (p:Hp→α→Prop):Prop :=
 ∀ {H:Type} {enc:TypeId×Value→H} {w:World} {f:Nat} {g:Nat→Bool} {d:Bool} {e:Nat} {cs:List Value} {x:DataW H×List MemPlace},
  DataW.trod enc P w f g d e T cs=some x→∃ a:α,cs=c a∧D x.1 a∧p (fun b=>w.heap[b]?) a
def B7n {H:Type} (d:DataW H) (n:Int):Prop:=d=.lit (.int .i64 n)
def dU8 {H:Type} (d:DataW H) (n:UInt8):Prop:=d=.lit (.int .u8 (n.toNat:Int))
def E0k {H:Type} (d:DataW H) (b:Bool):Prop:=d=.lit (.bool b)
def B5s (n:Int):Prop:=-9223372036854775808≤n∧n≤9223372036854775807
theorem E0m {k:IntKind} {n:Int} (h:(Lit.int k n).wf=true):k.min≤n∧n≤k.max:=by
 simpa only [Lit.wf,decide_eq_true_eq,Bool.and_eq_true] using h
theorem A4m {T:TypeId} (a:P.underlying T=some (.int .i64)):Cod P T Int H8 B7n (fun _=>B5s):=fun h=>by
 obtain ⟨n,rfl,rfl,b⟩:=DataW.trod_int a h
 exact ⟨n,rfl,rfl,E0m b⟩
theorem E2l {T:TypeId} (b:P.underlying T=some (.int .u8)):Cod P T UInt8 cU8 dU8 (fun _ _=>True):=fun h=>by
 obtain ⟨n,rfl,rfl,c⟩:=DataW.trod_int b h
 have a:0≤n∧n≤255:=E0m c
 exact ⟨by8 n,by simp [cU8,B6c a],by simp [dU8,B6c a],trivial⟩
theorem D7x {T:TypeId} (a:P.underlying T=some .bool):Cod P T Bool N8 E0k (fun _ _=>True):=fun h=>by
 obtain ⟨b,rfl,rfl⟩:=DataW.trod_bool a h
 exact ⟨b,rfl,rfl,trivial⟩
theorem C3m {α β:Type} {f:α→Option β} {l:List α} {r:List β} (h:l.mapM f=some r) (i:Nat) (a:α) (c:l[i]?=some a):∃ b,r[i]?=some b∧f a=some b:=Lib.mapM_at h i a c
theorem A0w {cs:List Value} {o n m:Nat} {u rest:List Value} (h:(cs.drop o).take n=u) (hr:cs.drop m=rest) (a:o+n=m):cs.drop o=u++rest:=by
 subst h hr a;rw [← List.drop_drop,List.take_append_drop]
theorem B0y {H:Type} {enc:TypeId×Value→H} {w:World} {b:Nat} {g:Nat→Bool} {c:Bool} {a:Nat} {T:TypeId} {cs:List Value} {x:DataW H×List MemPlace} {d:Array Field}
  (l:P.underlying T=some (.struct d)) (h:DataW.trod enc P w b g c a T cs=some x) :
  cs.length=P.cellsOf T∧∃ (n:Nat) (ys:List (DataW H×List MemPlace)),a=n+1∧x.1=.agg (ys.map (·.1))∧ys.length=d.size∧∀ (i:Nat) f,d[i]?=some f→∃ y,ys[i]?=some y∧DataW.trod enc P w b g c n f.type ((cs.drop f.offset).take (P.cellsOf f.type))=some y:=by
 cases a with
 | zero=>simp [DataW.trod] at h
 | succ n =>
  unfold DataW.trod at h
  simp only [l] at h
  split at h
  ·rename_i k
   obtain ⟨ys,e,rfl⟩:=Option.map_eq_some_iff.1 h
   refine ⟨k,n,ys,rfl,rfl,by simpa using Lib.mapM_length e,fun i f j=>?_⟩
   exact C3m e i f (by simpa using j)
  ·cases h
theorem D2a {H:Type} {enc:TypeId×Value→H} {w:World} {b:Nat} {f:Nat→Bool} {c:Bool} {a:Nat} {T e:TypeId} {k:Nat} {cs:List Value} {x:DataW H×List MemPlace}
  (j:P.underlying T=some (.array k e)) (h:DataW.trod enc P w b f c a T cs=some x) :
  cs.length=P.cellsOf T∧∃ (n:Nat) (ys:List (DataW H×List MemPlace)),a=n+1∧x.1=.agg (ys.map (·.1))∧ys.length=k∧∀ (i:Nat),i<k→∃ y,ys[i]?=some y∧DataW.trod enc P w b f c n e ((cs.drop (i * P.cellsOf e)).take (P.cellsOf e))=some y:=by
 cases a with
 | zero=>simp [DataW.trod] at h
 | succ n =>
  unfold DataW.trod at h
  simp only [j] at h
  split at h
  ·rename_i l
   obtain ⟨ys,d,rfl⟩:=Option.map_eq_some_iff.1 h
   refine ⟨l,n,ys,rfl,rfl,by simpa using Lib.mapM_length d,fun i g=>?_⟩
   exact C3m d i i (by simp [g])
  ·cases h
abbrev C9o (w:World):Hp:=fun b=>w.heap[b]?
theorem D0f {T e sz k:Nat} {α:Type} {c:α→List Value} {D:{H:Type}→DataW H→α→Prop} {p:Hp→α→Prop} (hc:Cod P e α c D p) (r:∀ x,(c x).length=sz) (a0:P.cellsOf e=sz) (ht:P.underlying T=some (.array k e)) (hT:P.cellsOf T=k * sz)
  (q:DataW Unit→Option α) (u:∀ d a,D d a→q d=some a) {tab:List α} {ds:List (DataW Unit)} (g:ds.mapM q=some tab)
  {enc:TypeId×Value→Unit} {w:World} {s:Nat} {sp:Nat→Bool} {m:Bool} {t:Nat} {cs:List Value} {ps:List MemPlace} (h:DataW.trod enc P w s sp m t T cs=some (.agg ds,ps)):cs=tab.flatMap c:=by
 obtain ⟨hl,n,ys,rfl,hx,z,hy⟩:=D2a ht h
 have o:ds=ys.map (·.1):=by simpa using hx
 have a1:ds.length=k:=by rw [o];simpa using z
 have a2:tab.length=k:=by rw [← a1];exact Lib.mapM_length g
 have a4:∀ (i:Nat),i<k→∃ a,tab[i]?=some a∧(cs.drop (i * sz)).take sz=c a:=by
  intro i hi
  obtain ⟨y,h1,v⟩:=hy i hi
  rw [a0] at v
  obtain ⟨a,h3,h4,_⟩:=hc v
  obtain ⟨b,h5,h6⟩:=C3m g i y.1 (by rw [o];simp [h1])
  rw [u _ _ h4] at h6
  obtain rfl:a=b:=Option.some.inj h6
  exact ⟨a,h5,h3⟩
 rw [hT,← a2] at hl
 apply List.ext_getElem?
 intro j
 by_cases hj:j<tab.length * sz
 ·have f:0<sz:=by
   rcases Nat.eq_zero_or_pos sz with l | l
   ·rw [l,Nat.mul_zero] at hj;omega
   ·exact l
  have hk:j / sz<tab.length:=by rw [Nat.div_lt_iff_lt_mul f];exact hj
  have hm:j % sz<sz:=Nat.mod_lt _ f
  have e1:j / sz * sz+j % sz=j:=by rw [Nat.mul_comm];exact Nat.div_add_mod j sz
  obtain ⟨a,l,h1⟩:=a4 (j / sz) opx
  have v:=C7p r a hk hm
  rw [e1] at v
  rw [v,show tab.getD (j / sz) a=a by simp [List.getD_eq_getElem?_getD,l],← h1,List.getElem?_take,if_pos hm,List.getElem?_drop,e1]
 ·rw [List.getElem?_eq_none opx,List.getElem?_eq_none (by rw [F5 r];omega)]
theorem B2j {i:List (String×DataW Unit)} {w:World} {b:String} {g T:Nat} {ds:List (DataW Unit)} (o:(b,.agg ds) ∈ i) (hg:P.globalNamed b=some g) (hT:(P.globals[g]?).map (·.type)=some T)
  {e sz k:Nat} {α:Type} {c:α→List Value} {D:{H:Type}→DataW H→α→Prop} {p:Hp→α→Prop} (hc:Cod P e α c D p) (a1:∀ x,(c x).length=sz) (a0:P.cellsOf e=sz) (ht:P.underlying T=some (.array k e)) (a2:P.cellsOf T=k * sz)
  (m:DataW Unit→Option α) (u:∀ d a,D d a→m d=some a) {tab:List α} (z:ds.mapM m=some tab) (h:laidMet P i w):(sl c (some ⟨g,0,none⟩) tab).p (C9o w):=by
 obtain ⟨ps,h,_⟩:=h
 have:∀ (l:List (String×DataW Unit)) (ps:List MemPlace),DataW.LaidVars P w l ps→(b,.agg ds) ∈ l→∃ cs f q,w.var? P b=some cs∧DataW.trod (fun _=>()) P w 0 (fun _=>true) false f T cs.toList=some (.agg ds,q):=by
  intro l
  induction l with
  | nil=>intro ps _ o;cases o
  | cons y r ih =>
   intro ps h o
   obtain ⟨n,d⟩:=y
   obtain ⟨g',t,cs,f,p',q,h1,h2,h3,h4,h5,_⟩:=h
   rcases List.mem_cons.1 o with e | o
   ·simp only [Prod.mk.injEq] at e
    obtain ⟨rfl,rfl⟩:=e
    rw [hg] at h1
    obtain rfl:g=g':=Option.some.inj h1
    rw [hT] at h2
    obtain rfl:T=t:=Option.some.inj h2
    exact ⟨cs,f,p',h3,h4⟩
   ·exact ih q h5 o
 obtain ⟨cs,f,q,s,a3⟩:=this i ps h o
 have a4:=D0f hc a1 a0 ht a2 m u z a3
 unfold World.var? at s
 rw [hg] at s
 simp only [Option.bind_some] at s
 split at s
 ·rename_i cs' TT fr hh
  obtain rfl:cs'=cs:=Option.some.inj s
  refine .inr ⟨rfl,cs',TT,fr,hh,fun j v hj=>?_⟩
  rw [← a4] at hj
  simpa using hj
 ·cases s
theorem D5j {f:Func} {s:ChangeSpec} {H:Type} {enc:TypeId×Value→H} (hl:laidOutB P=true) (z:(f.params.toList.all fun t=>P.readableRec t&&decide (t<P.types.size))=true) (m:f.resultTypes=#[4]) (hb:P.underlying 4=some .bool) (hv:s.vars=[])
  {W W':World} {args:Array Value} {ds n:List (DataW H)} {c:List MemPlace} (hW:DataW.Whole enc P f.params.toList s.vars false W args.toList ds n c) (hk:Below W.heap.size W W')
  (u:s.fn H ds={results:=[.lit (.bool true)],args:=ds}):s.post enc P f false true false false W args (.bool true) W':=by
 have i:=hW
 obtain ⟨p,q,hA,y,rfl,a7,a8⟩:=hW
 rw [hv] at y
 have w:n=[]∧q=[]:=by
  cases n with
  | nil=>exact ⟨rfl,y⟩
  | cons g n=>exact y.elim
 obtain ⟨rfl,rfl⟩:=w
 simp only [List.append_nil] at i
 have a0:∀ x ∈ p,x.block<W.heap.size:=fun x o=>i.lt x o
 have a:s.fn H (ds++[])={results:=[.lit (.bool true)],args:=ds}:=by simpa using u
 have j:∀ (l:List TypeId) (e:List Value) (ds:List (DataW H)) (ps:List MemPlace),(l.all fun t=>P.readableRec t&&decide (t<P.types.size))=true→DataW.TrodAll enc P W 0 (fun _=>true) true l e ds ps→(∀ x ∈ ps,x.block<W.heap.size)→DataW.TrodAll enc P W' 0 (fun b=>decide (b<W.heap.size)) true l e ds ps:=by
  intro l
  induction l with
  | nil=>intro e ds ps _ h _;cases e<;>cases ds<;>exact h
  | cons t l ih =>
   intro e ds ps r h o
   cases e with
   | nil=>cases ds<;>exact h.elim
   | cons v e =>
    cases ds with
    | nil=>exact h.elim
    | cons d ds =>
     simp only [List.all_cons,Bool.and_eq_true,decide_eq_true_eq] at r
     obtain ⟨p1,q1,h1,h2,rfl⟩:=h
     exact ⟨p1,q1,Below.trod hl r.1.1 r.1.2 h1 hk (fun x k=>o x (List.mem_append_left _ k)),ih e ds q1 (by simpa using r.2) h2 (fun x k=>o x (List.mem_append_right _ k)),rfl⟩
 refine ⟨ds,[],p,[],p,[],i,?_,?_,?_,hk.frame _,fun h=>by cases h⟩
 ·rw [a,m]
  refine ⟨[],[],⟨1,?_⟩,rfl,rfl⟩
  simp [DataW.trod,hb,Value.cells,Value.resultList]
 ·rw [a];exact j _ _ _ _ z hA a0
 ·rw [a,hv];rfl
end
end Go.Fen
set_option linter.unusedVariables false
set_option linter.unusedSimpArgs false
namespace Go.Fen
open Go Go.RowKit
def C3p (P:Program) (h:Hp) (b:Value) (args:List Value) (r:Value):Prop :=
 ∃ (k:FuncId) (first cap:Array Value),b=.func (.func k) first cap∧HasBody P k∧∀ (w:World) (a:Hp),h.le a→a.sub w→A0u [] a w →
  Calls P k (first++args.toArray++cap) w fun e w'=>∃ _:Unit,e=.returned r∧StW (cx w a []) [] [] w'
theorem C3p.mono {P:Program} {h c:Hp} {b:Value} {args:List Value} {r:Value} (l:h.le c) (f:C3p P h b args r):C3p P c b args r:=by
 obtain ⟨k,first,cap,e,j,H⟩:=f
 exact ⟨k,first,cap,e,j,fun w g a i d=>H w g (Hp.le_trans l a) i d⟩
def L7 (P:Program) (c:Value) (C:List Value→Value→Prop):Pers:=⟨fun h=>∀ args r,C args r→C3p P h c args r,fun d b args r a=>(b args r a).mono d⟩
def C1k (P:Program) (l:List (Int×Value)) (C:Int→List Value→Value→Prop):Pers:=⟨fun h=>∀ k,O2 k l=true→∀ args r,C k args r→C3p P h (lkV k .nilFunc l) args r,fun d b k c args r a=>(b k c args r a).mono d⟩
theorem D1f {α:Type} (b k:Int) (v:α):∀ (l:List (Int×α)),O2 b (l++[(k,v)])=(O2 b l||decide (b=k))
 | []=>by simp [O2]
 | (a,u)::l=>by simp only [List.cons_append,O2,D1f b k v l];cases decide (b=a)<;>rfl
theorem D4m (b k:Int) (z v:Value):∀ (l:List (Int×Value)),lkV b z (l++[(k,v)])=if O2 b l=true then lkV b z l else bif decide (b=k) then v else z
 | []=>by simp [O2,lkV]
 | (a,u)::l=>by
  simp only [List.cons_append,lkV,O2,D4m b k z v l]
  by_cases e:b=a
  ·simp [e]
  ·simp [e]
theorem C1g {α:Type} (k:Int):∀ (l:List (Int×α)),O2 k l=(l.map Prod.fst).contains k
 | []=>rfl
 | (a,v)::l=>by
  simp only [O2,List.map_cons,List.contains_cons,C1g k l]
  by_cases h:k=a
  ·subst h;simp
  ·simp [h]
theorem C5e (k:Int) (v:Value):∀ (l:List (Int×Value)) (j:Nat),B3 (l++[(k,v)]) j=B3 l j++[⟨.int .i64 k,v,j+l.length⟩]
 | [],j=>rfl
 | (a,u)::l,j=>by simp only [List.cons_append,B3,C5e k v l,List.length_cons];congr 4;omega
theorem D0h {k:Int}:∀ (l:List (Int×Value)) (j i:Nat),k ∉ l.map Prod.fst→Instr.findNow (.int .i64) (.int .i64 k) (B3 l j) i=some none
 | [],j,i,h=>rfl
 | (a,v)::l,j,i,h=>by
  simp only [List.map_cons,List.mem_cons,not_or] at h
  have b:(k == a)=false:=by simpa using h.1
  simp only [B3,Instr.findNow,Instr.sameNow,if_true,b]
  exact D0h l (j+1) (i+1) h.2
section
variable {P:Program} {n:Nat} {X:Cx} {E:Env} {L:Own} {Φ Φ' Φ0:List Pers}
theorem D0m {o:Oper} {T e b sz:Nat} {agg:Bool} {x y:Operand} {a:Addr} {m:Int} (n:P.underlying T=some (.array b e)) (j:Ty P e sz agg) (g:o.op=.slice T x (some y) none none) (h:ev E x=some (.pointer (some a))) (l:ev E y=some (.int .i64 m)) (k:Nat) (i:m=k) (q:k<b):G7 P X o E L Φ (.slice (some (a.add (k * sz))) (b - k) (b - k)):=.of_run fun r w f _=>by
 have p:=A2o (P:=P) f (A3t (d:=0) l i) (Nat.le_of_lt q) .sliceB w
 have c:¬ b=k:=by omega
 simp [execOp,g,C4 f h,Instr.sliceAt,run_underlying n,Instr.sureAddr,Instr.sliceBounds,j.size,p,c]
theorem A9t (x:Int):0≤bOp .and .u64 x 15∧bOp .and .u64 x 15≤15:=by
 have a:(BitVec.ofInt 64 x &&& BitVec.ofInt 64 15).toNat≤15:=by
  rw [BitVec.toNat_and];exact Nat.and_le_right
 have e:bOp .and .u64 x 15=((BitVec.ofInt 64 x &&& BitVec.ofInt 64 15).toNat:Int):=by
  unfold bOp
  exact A1b (by simp [IntKind.min,IntKind.signed]) (by simp only [IntKind.max,IntKind.signed,IntKind.bits];show (_:Int)≤_;simp;omega)
 rw [e];omega
theorem A6g {o:Oper} {T:TypeId} {x y:Operand} {s:List UInt8} {f:IntKind} {m:Int} (g:P.underlying T=some .string) (b:o.op=.index T x y) (c:ev E x=some (.string (bs s))) (e:ev E y=some (.int f m)) (k:Nat) (d:m=k) (h:k<s.length) :
  G7 P X o E L Φ (.int .u8 ((s.getD k 0).toNat:Int)):=.of_run fun j w a _=>by
 subst d
 have i:(0:Int)≤k:=by omega
 simp [execOp,b,C4 a c,C4 a e,Instr.index,asIntOf,run_underlying g,D6g s k h]
theorem D0j {o:Oper} {T e sz len:Nat} {agg:Bool} {x y:Operand} {a:Addr} {j:IntKind} {m:Int} (l:P.underlying T=some (.array len e)) (g:Ty P e sz agg) (c:o.op=.indexAddr T x y)
  (d:ev E x=some (.pointer (some a))) (i:ev E y=some (.int j m)) (k:Nat) (f:m=k) (n:k<len):G7 P X o E L Φ (.pointer (some (a.add (k * sz)))):=.of_run fun p w b _=>by
 subst f
 have h:(0:Int)≤k∧(k:Int)<len:=by omega
 simp [execOp,c,C4 b d,C4 b i,Instr.indexAt,asIntOf,run_underlying l,Instr.sureAddr,g.size,h,Nat.not_le.2 n]
theorem E4h {c:Func} {r s t q:ResultVar} {v u x y:Value} (d:c.results=#[r,s,t,q]) (h:B9e P n X r E L Φ v) (k:B9e P n X s E L Φ u) (l:B9e P n X t E L Φ x) (m:B9e P n X q E L Φ y):Res P n X c E L Φ (.tuple #[v,u,x,y]):=fun a w b=>by
 simp [A9y,d,h a w b,k a w b,l a w b,m a w b]
theorem Q4 {c:Value} {C:List Value→Value→Prop} (h:∀ args r,C args r→C1 P c args Φ0 r) (i:B0 Φ Φ0):R0 Φ (L7 P c C):=fun p f args r d=>by
 obtain ⟨k,first,cap,e,a⟩:=h args r d
 refine ⟨k,first,cap,e,a.1,fun w j b m g=>?_⟩
 have:=a.2 w j (fun q l=>q.mono b (i p f q l)) m g
 rw [Array.toArray_toList] at this
 exact this
theorem D2p {a:Value} {C C':List Value→Value→Prop} (h:R0 Φ (L7 P a C)) (d:∀ args r,C' args r→C args r):R0 Φ (L7 P a C'):=fun p c args r b=>h p c args r (d args r b)
theorem D7w {C:Int→List Value→Value→Prop}:R0 Φ (C1k P [] C):=fun p b k a=>by cases a
theorem D6f {l:List (Int×Value)} {k:Int} {v:Value} {C:Int→List Value→Value→Prop} (g:R0 Φ (C1k P l C)) (f:R0 Φ (L7 P v (C k))):R0 Φ (C1k P (l++[(k,v)]) C):=fun p c a d args r b=>by
 rw [D4m]
 rw [D1f] at d
 by_cases h:O2 a l=true
 ·rw [if_pos h];exact g p c a h args r b
 ·rw [if_neg h]
  have e:a=k:=by simpa [h] using d
  subst e
  rw [decide_eq_true rfl,cond_true]
  exact f p c args r b
theorem D9 {o:Oper} {T y e:Nat} {m f vv:Operand} {b:Nat} {k:Int} {v:Value} {l:List (Int×Value)} {ks:List Int} {C:Int→List Value→Value→Prop} (hT:MapTy P T y e (.int .i64)) (s:o.op=.insert T m f vv∨o.op=.mapUpdate T m f vv) (hm:ev E m=some (.map (some b))) (hk:ev E f=some (.int .i64 k)) (r:ev E vv=some v)
  (i:Nat) (z:L[i]?=some (b,.map (B3 l 0).toArray l.length)) (d:l.map Prod.fst=ks) (hn:k ∉ ks) (h1:R0 Φ (C1k P l C)) (h2:R0 Φ (L7 P v (C k))) (hf:B0 Φ Φ') :
  Tri P n X o E L Φ {t:List (Int×Value) // t.map Prod.fst=ks++[k]} (fun _=>undef) (fun x=>L.set i (b,.map (B3 x.1 0).toArray x.1.length)) (fun x=>C1k P x.1 C::Φ'):=by
 have h:=E7 (P:=P) (n:=n) (X:=X) (Φ:=Φ) (es':=(B3 (l++[(k,v)]) 0).toArray) hT s hm hk r i z (by rw [List.toList_toArray];exact D0h _ _ 0 (by rw [d];exact hn)) (by rw [C5e];simp)
 intro a w K Q hs g
 refine h a w K Q hs fun u w' hw=>?_
 refine g ⟨l++[(k,v)],by rw [List.map_append,d];rfl⟩ w' ?_
 have h3:=(hw.fact (C1k P (l++[(k,v)]) C) (D6f h1 h2)).foll (Φ':=C1k P (l++[(k,v)]) C::Φ') (fun p j q c=>by
  rcases List.mem_cons.1 c with rfl | c
  ·exact j _ (List.mem_cons_self ..)
  ·exact hf p (fun q c=>j q (List.mem_cons_of_mem _ c)) q c)
 simpa using h3
theorem D5f {o:Oper} {c:Call} {j:Operand} {f:List Value} {k:Int} {l:List (Int×Value)} {C:Int→List Value→Value→Prop} {r:Value}
  (s:R0 Φ (C1k P l C)) (m:O2 k l=true) (h:C k f r) (t:o.op=.call c) (v:c.callee=.value j) (n:ev E j=some (lkV k .nilFunc l)) (b:c.args.toList.mapM (ev E)=some f):Det P X o E L Φ r:=by
 intro a ha w y
 obtain ⟨p,i⟩:=y
 obtain ⟨z,first,cap,e,hb,_⟩:=s p i.facts k m f r h
 have d:G3 P z ((first++f.toArray++cap).toList) [C1k P l C] r:=by
  refine ⟨hb,fun w' x u hs g=>?_⟩
  obtain ⟨k2,f2,c2,q,_,H⟩:=u _ (List.mem_cons_self ..) k m f r h
  rw [e] at q
  cases q
  have:=H w' x (Hp.le_refl _) hs g
  rw [Array.toArray_toList]
  exact this
 rw [e] at n
 exact N3 d t v n b rfl (B0.con1 s B0.nil) a ha w ⟨p,i⟩
end
section
variable {P:Program} {n:Nat} {X:Cx} {K:Go.Act→World→Prop} {Q:Exit→Go.Act→World→Prop} {E:Env} {L L':Go.Fen.Own} {Φ:List Pers}
theorem B1f {a:Array Oper} {i m:Nat} (b:L=L') (h:JI P n X a i m K Q E L' Φ):JI P n X a i m K Q E L Φ:=b▸h
end
end Go.Fen
set_option linter.unusedVariables false
set_option linter.unusedSimpArgs false
namespace Go.Fen
open Go Go.RowKit
def E0i (P:Program) (T:Nat):Option (Nat×Bool) :=
 match P.info? T,P.underlying T with
 | some i,some d=>some (i.size,TypeDesc.row d)
 | _,_=>none
theorem D3m {P:Program} {T sz:Nat} {agg:Bool} (h:E0i P T=some (sz,agg)):Ty P T sz agg:=⟨by
 unfold E0i at h
 unfold TyB
 split at h
 ·rename_i i d b a
  simp only [Option.some.injEq,Prod.mk.injEq] at h
  obtain ⟨rfl,rfl⟩:=h
  simp [b,a]
 ·cases h⟩
def ldV (sz:Nat) (agg:Bool) (cs:List Value) (off:Nat):Option Value :=
 match agg with
 | true=>match Nat.beq ((cs.drop off).take sz).length sz with
  | true=>some (.agg ((cs.drop off).take sz).toArray)
  | false=>none
 | false=>match Nat.beq sz 1 with
  | true=>cs[off]?
  | false=>none
def E2w (v:Value) (sz off:Nat) (cs:List Value):Bool:=Nat.beq v.cells.toList.length sz&&v.cells.toList.all (·.oneCell')&&Nat.ble (off+sz) cs.length
def B1i (P:Program) (E:Env) (L:Own) (a bs:List Nat):Op→Option (Value×Own×List Nat×List Nat×List (Nat×Nat))
 | .load T x=>match ev E x,a with
  | some (.pointer (some ⟨b,off,none⟩)),j::hs'=>match L[j]?,E0i P T with
   | some (b',.cells cs TT (0,0)),some (sz,agg)=>match ldV sz agg cs.toList off with
    | some v=>some (v,L,hs',bs,[(b,b')])
    | none=>none
   | _,_=>none
  | _,_=>none
 | .store T x y=>match ev E x,ev E y,a with
  | some (.pointer (some ⟨b,off,none⟩)),some v,j::hs'=>match L[j]?,E0i P T with
   | some (b',.cells cs TT (0,0)),some (sz,_)=>match E2w v sz off cs.toList with
    | true=>some (undef,L.set j (bx b' (A0q cs.toList v.cells.toList off) TT),hs',bs,[(b,b')])
    | false=>none
   | _,_=>none
  | _,_,_=>none
 | .box T x=>match ev E x,bs with
  | some v,b::bs'=>some (.pointer (some ⟨b,0,none⟩),bx b v.cells.toList T::L,a,bs',[])
  | _,_=>none
 | .alloc T=>match (P.info? T).bind (·.zero),bs with
  | some z,b::bs'=>some (.pointer (some ⟨b,0,none⟩),bx b z.cells.toList T::L,a,bs',[])
  | _,_=>none
 | .build T ps=>match B2r E ps.toList with
  | some vs=>match D2e P T vs with
   | some cs=>some (.agg cs,L,a,bs,[])
   | none=>none
  | none=>none
 | op=>match B2v P E op with
  | some v=>some (v,L,a,bs,[])
  | none=>none
def exN (P:Program) (n:Nat) (a:Array Oper):Nat→Nat→List Nat→List Nat→Env→Own→List (Nat×Nat)→Option (Env×Own×List Nat×List (Nat×Nat))
 | 0,_,_,bs,E,L,ps=>some (E,L,bs,ps)
 | k+1,i,hs,bs,E,L,ps=>match a[i]? with
  | none=>none
  | some o=>match B0l a o E,X1 n o.dst with
   | some false,true=>exN P n a k (i+1) hs bs (Env.put E o.dst undef) L ps
   | some true,true=>match B1i P E L hs bs o.op with
    | some (v,L',hs',bs',pr)=>exN P n a k (i+1) hs' bs' (Env.put E o.dst v) L' (pr++ps)
    | none=>none
   | _,_=>none
section
variable {P:Program} {n:Nat} {X:Cx} {K:Act→World→Prop} {Q:Exit→Act→World→Prop} {E E':Env} {L L':Own} {Φ Φ':List Pers}
def Op.turns:Op→Bool
 | .box _ _=>true
 | .alloc _=>true
 | .store _ _ _=>true
 | _=>false
theorem C8r {c:Array Oper}:∀ (k i:Nat) {b bs:List Nat} {E R:Env} {L L2:Own} {ps a:List (Nat×Nat)} {d:List Nat},exN P n c k i b bs E L ps=some (R,L2,d,a)→∀ q ∈ ps,q ∈ a
 | 0,i,b,bs,E,R,L,L2,ps,a,d,h,q,hq=>by
  simp only [exN,Option.some.injEq,Prod.mk.injEq] at h
  rw [← h.2.2.2];exact hq
 | k+1,i,b,bs,E,R,L,L2,ps,a,d,h,q,hq=>by
  unfold exN at h
  split at h
  ·cases h
  ·split at h
   ·exact C8r k (i+1) h q hq
   ·split at h
    ·exact C8r k (i+1) h q (List.mem_append_right _ hq)
    ·cases h
   ·cases h
theorem C7y {o:Oper} {s bs f g:List Nat} {v:Value} {n:List (Nat×Nat)} (c:Op.turns o.op=false) (h:B1i P E L s bs o.op=some (v,L',f,g,n)) (w:∀ q ∈ n,q.1=q.2) :
  g=bs∧L'=L∧(∀ e,B1i P E L s e o.op=some (v,L',f,e,n))∧G7 P X o E L Φ v:=by
 cases ho:o.op with
 | box T x=>rw [ho] at c;cases c
 | alloc T=>rw [ho] at c;cases c
 | store T x y=>rw [ho] at c;cases c
 | load T x =>
  rw [ho] at h
  simp only [B1i] at h
  split at h
  ·rename_i b off j z l
   split at h
   ·rename_i b' cs TT sz agg r t
    split at h
    ·rename_i u a
     simp only [Option.some.injEq,Prod.mk.injEq] at h
     obtain ⟨rfl,rfl,rfl,rfl,rfl⟩:=h
     obtain rfl:b=b':=w (b,b') oom
     refine ⟨rfl,rfl,fun e=>?_,?_⟩
     ·simp only [B1i,l,r,t,a]
     ·have d:=D3m t
      have p:L[j]?=some (bx b cs.toList TT):=by rw [r]
      unfold ldV at a
      cases agg with
      | true =>
       simp only at a
       split at a
       ·rename_i m
        obtain rfl:=Option.some.inj a
        exact F7 d ho l j p rfl (Nat.eq_of_beq_eq_true m)
       ·cases a
      | false =>
       simp only at a
       split at a
       ·rename_i m
        obtain rfl:=Nat.eq_of_beq_eq_true m
        exact A7 d ho l j p a
       ·cases a
    ·cases h
   ·cases h
  ·cases h
 | build T ps =>
  rw [ho] at h
  simp only [B1i] at h
  split at h
  ·rename_i vs i
   split at h
   ·rename_i cs k
    simp only [Option.some.injEq,Prod.mk.injEq] at h
    obtain ⟨rfl,rfl,rfl,rfl,rfl⟩:=h
    refine ⟨rfl,rfl,fun e=>by simp only [B1i,i,k],?_⟩
    have:=C1h (X:=X) (L:=L) (Φ:=Φ) (cs:=cs.toList) ho i (by simpa using k)
    simpa using this
   ·cases h
  ·cases h
 | _ =>
  all_goals
   rw [ho] at h
   simp only [B1i] at h
   split at h
   ·rename_i u a
    simp only [Option.some.injEq,Prod.mk.injEq] at h
    obtain ⟨rfl,rfl,rfl,rfl,rfl⟩:=h
    refine ⟨rfl,rfl,fun e=>by simp only [B1i,a],G7.pure (by rw [ho];exact a)⟩
   ·cases h
theorem D3i {o:Oper} {T:Nat} {x y:Operand} {l bs c d:List Nat} {v:Value} {g:List (Nat×Nat)} (e:o.op=.store T x y) (h:B1i P E L l bs o.op=some (v,L',c,d,g)) (r:∀ q ∈ g,q.1=q.2) :
  d=bs∧(∀ f,B1i P E L l f o.op=some (v,L',c,f,g))∧Tri P n X o E L Φ Unit (fun _=>v) (fun _=>L') (fun _=>Φ):=by
 rw [e] at h
 simp only [B1i] at h
 split at h
 ·rename_i b off u j t i m
  split at h
  ·rename_i b' cs TT sz agg k p
   split at h
   ·rename_i a
    simp only [Option.some.injEq,Prod.mk.injEq] at h
    obtain ⟨rfl,rfl,rfl,rfl,rfl⟩:=h
    obtain rfl:b=b':=r (b,b') oom
    refine ⟨rfl,fun f=>?_,?_⟩
    ·rw [e];simp only [B1i,i,m,k,p,a]
    ·have s:L[j]?=some (bx b cs.toList TT):=by rw [k]
     unfold E2w at a
     simp only [Bool.and_eq_true] at a
     exact F2 (D3m p) e i m j s oom (Nat.eq_of_beq_eq_true a.1.1) a.1.2 rfl a.2
   ·cases h
  ·cases h
 ·cases h
theorem A5m {d:Array Oper} {m:Nat}:∀ (k i:Nat) (f:List Nat) (c:Nat) {E:Env} {L:Own} {ps:List (Nat×Nat)},
  (∀ bs:List Nat,bs.length=c→∃ R L2 j,exN P n d k i f bs E L ps=some (R,L2,[],j)∧(∀ q ∈ j,q.1=q.2)∧JI P n X d (i+k) m K Q R L2 Φ)→JI P n X d i (k+m) K Q E L Φ
 | 0,i,f,c,E,L,ps,H=>by
  obtain ⟨R,L2,j,h,p,r⟩:=H (List.replicate c 0) oom
  simp only [exN,Option.some.injEq,Prod.mk.injEq] at h
  obtain ⟨rfl,rfl,_,_⟩:=h
  rw [Nat.zero_add];exact r
 | k+1,i,f,c,E,L,ps,H=>by
  obtain ⟨R,L2,j,h,p,r⟩:=H (List.replicate c 0) oom
  have h0:=h
  unfold exN at h
  rw [Nat.add_right_comm]
  split at h
  ·cases h
  ·rename_i o ho
   have g:∀ bs,exN P n d (k+1) i f bs E L ps=match B0l d o E,X1 n o.dst with
     | some false,true=>exN P n d k (i+1) f bs (Env.put E o.dst undef) L ps
     | some true,true=>match B1i P E L f bs o.op with
      | some (v,L',l,a7,pr)=>exN P n d k (i+1) l a7 (Env.put E o.dst v) L' (pr++ps)
      | none=>none
     | _,_=>none:=fun bs=>by rw [exN];simp only [ho]
   split at h
   ·rename_i hr w
    refine D4b ho hr w (A5m (ps:=ps) k (i+1) f c fun bs t=>?_)
    obtain ⟨R,L2,j,h,p,r⟩:=H bs t
    rw [g,hr,w] at h
    exact ⟨R,L2,j,h,p,by rw [Nat.add_assoc,Nat.add_comm 1 k];exact r⟩
   ·rename_i hr w
    split at h
    ·rename_i v L' l a7 pr hx
     have a4:∀ q ∈ pr,q.1=q.2:=fun q aa=>p q (C8r k (i+1) h q (List.mem_append_left _ aa))
     have next:∀ bs b2,B1i P E L f bs o.op=some (v,L',l,b2,pr)→exN P n d (k+1) i f bs E L ps=exN P n d k (i+1) l b2 (Env.put E o.dst v) L' (pr++ps):=fun bs b2 t=>by
      rw [g,hr,w];simp only [t]
     cases ht:Op.turns o.op with
     | false =>
      obtain ⟨_,rfl,s,a6⟩:=C7y (X:=X) (Φ:=Φ) ht hx a4
      refine C8e ho hr w a6.det (A5m (ps:=pr++ps) k (i+1) l c fun bs t=>?_)
      obtain ⟨R,L2,j,h,p,r⟩:=H bs t
      rw [next bs bs (s bs)] at h
      exact ⟨R,L2,j,h,p,by rw [Nat.add_assoc,Nat.add_comm 1 k];exact r⟩
     | true =>
      cases hop:o.op with
      | store T x y =>
       obtain ⟨_,s,a5⟩:=D3i (n:=n) (X:=X) (Φ:=Φ) hop hx a4
       refine C6f ho hr w a5 fun _=>(A5m (ps:=pr++ps) k (i+1) l c fun bs t=>?_)
       obtain ⟨R,L2,j,h,p,r⟩:=H bs t
       rw [next bs bs (s bs)] at h
       exact ⟨R,L2,j,h,p,by rw [Nat.add_assoc,Nat.add_comm 1 k];exact r⟩
      | box T x =>
       have a:=hx
       rw [hop] at a
       simp only [B1i] at a
       split at a
       ·rename_i u b0 a9 hu a2
        obtain ⟨c',rfl⟩:∃ c',c=c'+1:=by
         cases c with
         | zero=>cases a2
         | succ c=>exact ⟨c,rfl⟩
        refine C6f ho hr w (X7 (cs:=u.cells.toList) hop hu oom) fun b=>(A5m (ps:=ps) k (i+1) f c' fun bs t=>?_)
        ·obtain ⟨R,L2,j,h,p,r⟩:=H (b::bs) (by simp [t])
         have e:B1i P E L f (b::bs) o.op=some (.pointer (some ⟨b,0,none⟩),bx b u.cells.toList T::L,f,bs,[]):=by rw [hop];simp only [B1i,hu]
         rw [g,hr,w] at h
         simp only [e] at h
         exact ⟨R,L2,j,h,p,by rw [Nat.add_assoc,Nat.add_comm 1 k];exact r⟩
       ·cases a
      | alloc T =>
       have a:=hx
       rw [hop] at a
       simp only [B1i] at a
       split at a
       ·rename_i z b0 a9 hz a2
        obtain ⟨c',rfl⟩:∃ c',c=c'+1:=by
         cases c with
         | zero=>cases a2
         | succ c=>exact ⟨c,rfl⟩
        refine C6f ho hr w (V7 (cs:=z.cells.toList) ⟨by rw [hz];simp⟩ hop) fun b=>(A5m (ps:=ps) k (i+1) f c' fun bs t=>?_)
        ·obtain ⟨R,L2,j,h,p,r⟩:=H (b::bs) (by simp [t])
         have e:B1i P E L f (b::bs) o.op=some (.pointer (some ⟨b,0,none⟩),bx b z.cells.toList T::L,f,bs,[]):=by rw [hop];simp only [B1i,hz]
         rw [g,hr,w] at h
         simp only [e] at h
         exact ⟨R,L2,j,h,p,by rw [Nat.add_assoc,Nat.add_comm 1 k];exact r⟩
       ·cases a
      | _=>all_goals (rw [hop] at ht;cases ht)
    ·cases h
   ·cases h
theorem C8z {b:Array Oper} {a:Env} {t:Nat} {v:Value} (E0:Env) (c:E0.lookup t=some v) (f:a.lookup t=none):∀ (k i:Nat) {m bs:List Nat} {E R:Env} {L L2:Own} {ps l:List (Nat×Nat)} {g:List Nat},
  C6h b E0 a k i=true→exN P n b k i m bs E L ps=some (R,L2,g,l)→E.lookup t=some v→R.lookup t=some v
 | 0,i,m,bs,E,R,L,L2,ps,l,g,_,h,he=>by
  simp only [exN,Option.some.injEq,Prod.mk.injEq] at h
  rw [← h.1];exact he
 | k+1,i,m,bs,E,R,L,L2,ps,l,g,hk,h,he=>by
  unfold exN at h
  unfold C6h at hk
  simp only [Bool.and_eq_true] at hk
  split at h
  ·cases h
  ·rename_i o p
   have j:o.dst≠some t:=by
    intro j
    have:=hk.1
    simp only [p,Option.bind_some,j,B2z,f,c] at this
    simp at this
   have put:∀ u,(Env.put E o.dst u).lookup t=some v:=by
    intro u
    cases hdst:o.dst with
    | none=>exact he
    | some d =>
     have:(t == d)=false:=by simp;intro e;exact j (by rw [hdst,e])
     simp only [Env.put,List.lookup,this];exact he
   split at h
   ·exact C8z E0 c f k (i+1) hk.2 h (put _)
   ·split at h
    ·exact C8z E0 c f k (i+1) hk.2 h (put _)
    ·cases h
   ·cases h
def exL (P:Program) (n:Nat) (b:Array Oper) (k i:Nat) (c bs:List Nat) (E:Env) (L:Own) (a:Env):Option (Env×Own×List Nat) :=
 match C6h b E a k i with
 | true=>match exN P n b k i c bs E L [] with
  | some (R,L2,[],ps)=>match B7p R a with
   | some r=>some (r,L2,ps.map Prod.fst)
   | none=>none
  | _=>none
 | false=>none
def exS (P:Program) (n:Nat) (a:Array Oper) (k i:Nat) (b bs:List Nat) (E:Env) (L:Own):List Nat :=
 match exN P n a k i b bs E L [] with
 | some (_,_,_,ps)=>ps.map Prod.snd
 | none=>[]
theorem D1d:∀ (ps:List (Nat×Nat)),ps.map Prod.fst=ps.map Prod.snd→∀ q ∈ ps,q.1=q.2
 | [],_,q,hq=>by cases hq
 | p::ps,h,q,hq=>by
  simp only [List.map_cons,List.cons.injEq] at h
  rcases List.mem_cons.1 hq with rfl | hq
  ·exact h.1
  ·exact D1d ps h.2 q hq
theorem B4m {b:Array Oper} {k i:Nat} {d bs:List Nat} {c:Env} (h:exL P n b k i d bs E L c=some (c,L',exS P n b k i d bs E L)) :
  ∃ R j,exN P n b k i d bs E L []=some (R,L',[],j)∧(∀ q ∈ j,q.1=q.2)∧∀ a,Has a R→Has a (c++E):=by
 unfold exL at h
 split at h
 ·rename_i f
  split at h
  ·rename_i R L2 ps hR
   split at h
   ·rename_i r hr
    simp only [Option.some.injEq,Prod.mk.injEq] at h
    obtain ⟨rfl,rfl,l⟩:=h
    have o:exS P n b k i d bs E L=ps.map Prod.snd:=by unfold exS;rw [hR]
    rw [o] at l
    refine ⟨R,ps,hR,D1d ps l,fun a m t v e=>?_⟩
    rw [B1h] at e
    split at e
    ·rename_i u g
     exact (m.weaken (Q7 (B5t hr))) t v (by rw [g];exact e)
    ·rename_i g
     exact m t v (C8z E e g k i f hR e)
   ·cases h
  ·cases h
 ·cases h
theorem C9d {b:Array Oper} {i m:Nat} (hE:∀ a,Has a E→Has a E') (h:JI P n X b i m K Q E' L Φ):JI P n X b i m K Q E L Φ:=fun a w c=>h a w ⟨c.size,c.defers,hE a c.has,c.world⟩
theorem zrg {a:Array Oper} {i:Nat} (k m:Nat) (c:List Nat) (b:Env) (L':Own) (g:JI P n X a (i+k) m K Q (b++E) L' Φ) (h:exL P n a k i c [] E L b=some (b,L',exS P n a k i c [] E L):=by kernel_rfl):JI P n X a i (k+m) K Q E L Φ :=
 A5m k i c 0 fun bs j=>by
  obtain rfl:=List.length_eq_zero_iff.1 j
  obtain ⟨R,e,d,l,f⟩:=B4m h
  exact ⟨R,L',e,d,l,C9d f g⟩
theorem H9 {a:Array Oper} {i:Nat} (k m:Nat) (d:List Nat) (c:Nat→Env) (L':Nat→Own) (g:∀ b,JI P n X a (i+k) m K Q (c b++E) (L' b) Φ) (h:∀ b,exL P n a k i d [b] E L (c b)=some (c b,L' b,exS P n a k i d [b] E L):=by intros;kernel_rfl):JI P n X a i (k+m) K Q E L Φ :=
 A5m k i d 1 fun bs l=>by
  match bs,l with
  | [b],_ =>
   obtain ⟨R,f,e,o,j⟩:=B4m (h b)
   exact ⟨R,L' b,f,e,o,C9d j (g b)⟩
theorem A8j {a:Array Oper} {i:Nat} (k m:Nat) (e:List Nat) (d:Nat→Nat→Env) (L':Nat→Nat→Own) (g:∀ b c,JI P n X a (i+k) m K Q (d b c++E) (L' b c) Φ) (h:∀ b c,exL P n a k i e [b,c] E L (d b c)=some (d b c,L' b c,exS P n a k i e [b,c] E L):=by intros;kernel_rfl):JI P n X a i (k+m) K Q E L Φ :=
 A5m k i e 2 fun bs o=>by
  match bs,o with
  | [b,c],_ =>
   obtain ⟨R,j,f,p,l⟩:=B4m (h b c)
   exact ⟨R,L' b c,j,f,p,C9d l (g b c)⟩
theorem C0f {a:Array Oper} {i:Nat} (k m:Nat) (f:List Nat) (e:Nat→Nat→Nat→Env) (L':Nat→Nat→Nat→Own) (g:∀ b c d,JI P n X a (i+k) m K Q (e b c d++E) (L' b c d) Φ) (h:∀ b c d,exL P n a k i f [b,c,d] E L (e b c d)=some (e b c d,L' b c d,exS P n a k i f [b,c,d] E L):=by intros;kernel_rfl):JI P n X a i (k+m) K Q E L Φ :=
 A5m k i f 3 fun bs p=>by
  match bs,p with
  | [b,c,d],_ =>
   obtain ⟨R,l,j,q,o⟩:=B4m (h b c d)
   exact ⟨R,L' b c d,l,j,q,C9d o (g b c d)⟩
theorem ip' {a:Array Oper} {i:Nat} (k m:Nat) (new:Env) (g:JI P n X a (i+k) m K Q (new++E) L Φ) (h:A2k P n a k i E new=some new:=by kernel_rfl):JI P n X a i (k+m) K Q E L Φ:=ip k m new h g
theorem dp' {a:Array Oper} {i:Nat} (k m:Nat) (new:Env) (g:JD P n X a (i+k) m K (new++E) L Φ) (h:A2k P n a k i E new=some new:=by kernel_rfl):JD P n X a i (k+m) K E L Φ:=dp k m new h g
def C0o (a:Array Oper):Nat→Nat→Bool
 | 0,_=>true
 | k+1,i=>(match a[i]? with
  | some o=>!Op.turns o.op
  | none=>false)&&C0o a k (i+1)
theorem C0q {a:Array Oper} {m:Nat}:∀ (k i:Nat) (e:List Nat) {E R:Env} {L2:Own} {ps d:List (Nat×Nat)},C0o a k i=true→exN P n a k i e [] E L ps=some (R,L2,[],d)→(∀ q ∈ d,q.1=q.2) →
  JD P n X a (i+k) m K R L Φ→JD P n X a i (k+m) K E L Φ
 | 0,i,e,E,R,L2,ps,d,_,h,hq,hk=>by
  simp only [exN,Option.some.injEq,Prod.mk.injEq] at h
  obtain ⟨rfl,_,_,_⟩:=h
  rw [Nat.zero_add];exact hk
 | k+1,i,e,E,R,L2,ps,d,hqt,h,hq,hk=>by
  unfold exN at h
  unfold C0o at hqt
  simp only [Bool.and_eq_true] at hqt
  rw [Nat.add_right_comm]
  have c:JD P n X a (i+1+k) m K R L Φ:=by rw [Nat.add_assoc,Nat.add_comm 1 k];exact hk
  split at h
  ·cases h
  ·rename_i o g
   have w:Op.turns o.op=false:=by have:=hqt.1;rw [g] at this;simpa using this
   split at h
   ·rename_i hr p
    exact D4c g hr p (C0q k (i+1) e hqt.2 h hq c)
   ·rename_i hr p
    split at h
    ·rename_i v L' l u t r
     have f:∀ q ∈ t,q.1=q.2:=fun q j=>hq q (C8r k (i+1) h q (List.mem_append_left _ j))
     obtain ⟨x,s,_,b⟩:=C7y (X:=X) (Φ:=Φ) w r f
     rw [x,s] at h
     exact C9e g hr p b.det (C0q k (i+1) l hqt.2 h hq c)
    ·cases h
   ·cases h
theorem E2m {b:Array Oper} {i m:Nat} (hE:∀ a,Has a E→Has a E') (h:JD P n X b i m K E' L Φ):JD P n X b i m K E L Φ:=fun a c d e=>h a c d (hE a e)
theorem zdg {a:Array Oper} {i:Nat} (k m:Nat) (c:List Nat) (b:Env) (g:JD P n X a (i+k) m K (b++E) L Φ) (h:exL P n a k i c [] E L b=some (b,L,exS P n a k i c [] E L):=by kernel_rfl) (d:C0o a k i=true:=by kernel_rfl):JD P n X a i (k+m) K E L Φ:=by
 obtain ⟨R,l,e,j,f⟩:=B4m h
 exact C0q k i c d e j (E2m f g)
theorem znl {a:Array Oper} {i m:Nat} (L':Own) (g:JI P n X a i m K Q E L' Φ) (h:L=L':=by first|rfl|simp only [List.cons_append,List.append_assoc,List.nil_append,List.append_nil]):JI P n X a i m K Q E L Φ:=h▸g
theorem zjd {ρ:Type} {c:Operand} {x y:Code} {p:Prop} [Decidable p] {A B R:ρ} (b:ev E c=some (.bool (decide p))) (hR:(bif decide p then A else B)=R) (a:A=R→decide p=true→p→J P n X x Q E L Φ) (d:B=R→decide p=false→¬ p→J P n X y Q E L Φ):J P n X (.cond c x y) Q E L Φ :=
 W8 b (fun e=>a (bt hR e) e (of_decide_eq_true e)) (fun e=>d (bf hR e) e (of_decide_eq_false e))
theorem zjn {ρ:Type} {c:Operand} {x y:Code} {p:Prop} [Decidable p] {A B R:ρ} (b:ev E c=some (.bool (!decide p))) (hR:(bif (!decide p) then A else B)=R) (a:A=R→(!decide p)=true→¬ p→J P n X x Q E L Φ) (d:B=R→(!decide p)=false→¬ ¬ p→J P n X y Q E L Φ):J P n X (.cond c x y) Q E L Φ :=
 W8 b (fun e=>a (bt hR e) e (by simpa using e)) (fun e=>d (bf hR e) e (not_not_intro (by simpa using e)))
theorem zjb {ρ:Type} {c:Operand} {x y:Code} {b:Bool} {A B R:ρ} (d:ev E c=some (.bool b)) (hR:(bif b then A else B)=R) (a:A=R→b=true→J P n X x Q E L Φ) (f:B=R→b=false→J P n X y Q E L Φ):J P n X (.cond c x y) Q E L Φ :=
 W8 d (fun e=>a (bt hR e) e) (fun e=>f (bf hR e) e)
theorem E0n (hD:X.D=[]):(X.D.map Prod.fst).Nodup∧∀ d ∈ X.D,d.2=.deferred (some []):=by rw [hD];exact ⟨List.nodup_nil,fun d a=>by cases a⟩
theorem zer {a:Func} {α:Type} {val:α→Value} {L1:α→Own} {Φ1:α→List Pers} {v:Value} (c:X.rho=none) (hD:X.D=[]) (hr:Res P n X a E L Φ v) (x:α) (d:List.Sublist (L1 x) L) (hΦ:B0 Φ (Φ1 x)) (b:val x=v:=by rfl):JQ n X (C8l P X a α val L1 Φ1 .ret) E L Φ :=
 B5b rfl ⟨c,hD⟩ (E0n hD) hr x b d hΦ
theorem zen {a:Func} {α:Type} {val:α→Value} {L1:α→Own} {Φ1:α→List Pers} {v:Value} (c:X.rho=none) (hD:X.D=[]) (hr:Res P n X a E L Φ v) (x:α) (d:List.Sublist (L1 x) L) (hΦ:B0 Φ (Φ1 x)) (b:val x=v:=by rfl):JQ n X (C8l P X a α val L1 Φ1 .normal) E L Φ :=
 D1i rfl ⟨c,hD⟩ (E0n hD) hr x b d hΦ
theorem E9 {a:Func} {t:Nat} {val:Unit→Value} {v:Value} (c:X.rho=none) (hD:X.D=[]) (d:a.results=#[.tmp t]:=by rfl) (h:E.lookup t=some v:=by rfl) (b:val ()=v:=by rfl):JQ n X (C8l P X a Unit val (fun _=>[]) (fun _=>[]) .ret) E L Φ :=
 zer c hD (O3 d (B9 h)) () (List.nil_sublist _) B0.nil b
theorem A8m {a:Func} {t s:Nat} {val:Unit→Value} {v u:Value} (c:X.rho=none) (hD:X.D=[]) (d:a.results=#[.tmp t,.tmp s]:=by rfl) (h:E.lookup t=some v:=by rfl) (k:E.lookup s=some u:=by rfl) (b:val ()=.tuple #[v,u]:=by rfl):JQ n X (C8l P X a Unit val (fun _=>[]) (fun _=>[]) .ret) E L Φ :=
 zer c hD (U6 d (B9 h) (B9 k)) () (List.nil_sublist _) B0.nil b
theorem zai {R:Env} (c t p:Nat) {v:Value} {g b:Bool} (k:g=b) (hR:R.drop c=E:=by rfl) (h:C1t E t p (R.take c)=true:=by rfl) (j:E.lookup t=some (.bool g):=by rfl) (d:R.lookup t=some (.bool b):=by rfl) (f:R.lookup p=some v:=by rfl) {e:Array Oper} {i:Nat} {Q':Exit→Act→World→Prop}:JI P n X e i 0 (fun a w=>St n X ((p,v)::E) L Φ a w) Q' R L Φ :=
 A3 (P7 c t p k B0.refl (List.Sublist.refl _) hR h j d f)
theorem zad {R:Env} (c t p:Nat) {v:Value} {g b:Bool} (k:g=b) (hR:R.drop c=E:=by rfl) (h:C1t E t p (R.take c)=true:=by rfl) (j:E.lookup t=some (.bool g):=by rfl) (d:R.lookup t=some (.bool b):=by rfl) (f:R.lookup p=some v:=by rfl) {e:Array Oper} {i:Nat}:JD P n X e i 0 (fun a _=>a.tmps.size=n∧a.defers=X.marks∧Has a ((p,v)::E)) R L Φ :=
 B7i (E4o c t p k hR h j d f)
theorem zca {b:Array Oper} {i m:Nat} {o:Oper} {c:Call} {fv:Operand} {k:FuncId} {first cap:Array Value} {vs args:List Value} {Φ0:List Pers} {v:Value} (d:G3 P k args Φ0 v) (hΦ:B0 Φ Φ0)
  (h:JI P n X b (i+1) m K Q (Env.put E o.dst v) L Φ) (e:B9f n b i E=some o:=by rfl) (f:o.op=.call c:=by rfl) (g:c.callee=.value fv:=by rfl) (j:ev E fv=some (.func (.func k) first cap):=by rfl) (a:c.args.toList.mapM (ev E)=some vs:=by rfl) (l:(first++vs.toArray++cap).toList=args:=by rfl):JI P n X b i (m+1) K Q E L Φ :=
 ixc e (N3 d f g j a l hΦ) h
theorem zrl {a:Array Oper} {i:Nat} (k m:Nat) (c:List Nat) (b:Env) (g:JI P n X a (i+k) m K Q (b++E) L Φ) (h:exL P n a k i c [] E L b=some (b,L,exS P n a k i c [] E L):=by kernel_rfl):JI P n X a i (k+m) K Q E L Φ:=zrg k m c b L g h
theorem zcm {b:Array Oper} {i m:Nat} {o:Oper} {c:Call} {fv:Operand} {k:FuncId} {first cap:Array Value} {vs args:List Value} {Φ0:List Pers} {α:Type} {val:α→Value} {Φ1:α→List Pers}
  (d:Con P k args [] Φ0 α val (fun _=>[]) Φ1) (hΦ:B0 Φ Φ0) (h:∀ x,JI P n X b (i+1) m K Q (Env.put E o.dst (val x)) L (Φ1 x++Φ)) (e:B9f n b i E=some o:=by rfl) (f:o.op=.call c:=by rfl) (g:c.callee=.value fv:=by rfl)
  (j:ev E fv=some (.func (.func k) first cap):=by rfl) (a:c.args.toList.mapM (ev E)=some vs:=by rfl) (l:(first++vs.toArray++cap).toList=args:=by rfl):JI P n X b i (m+1) K Q E L Φ :=
 it e (C8 (L2:=L) d f g j a l hΦ (List.Perm.refl _) (fun _=>L) (fun _=>rfl)) h
theorem zia {b:Array Oper} {i:Nat} (k m t p:Nat) {g:Bool} (x:Bool) (c:g=true→JI P n X b i k (fun a w=>St n X ((p,.bool x)::E) L Φ a w) Q ((t,.bool true)::E) L Φ) (h:JI P n X b (i+k) m K Q ((p,.bool (g&&x))::E) L Φ)
  (e:E.lookup t=some (.bool g):=by rfl) (d:A2k P n b k i ((t,.bool false)::E) [(p,.bool false)]=some [(p,.bool false)]:=by kernel_rfl):JI P n X b i (k+m) K Q E L Φ:=E3x k m t p x e d c h
theorem zio {b:Array Oper} {i:Nat} (k m t p:Nat) {g:Bool} (x:Bool) (c:g=false→JI P n X b i k (fun a w=>St n X ((p,.bool x)::E) L Φ a w) Q ((t,.bool false)::E) L Φ) (h:JI P n X b (i+k) m K Q ((p,.bool (g||x))::E) L Φ)
  (e:E.lookup t=some (.bool g):=by rfl) (d:A2k P n b k i ((t,.bool true)::E) [(p,.bool true)]=some [(p,.bool true)]:=by kernel_rfl):JI P n X b i (k+m) K Q E L Φ:=ior k m t p x e d c h
theorem zda {b:Array Oper} {i:Nat} (k m t p:Nat) {g:Bool} (x:Bool) (c:g=true→JD P n X b i k (fun a _=>a.tmps.size=n∧a.defers=X.marks∧Has a ((p,.bool x)::E)) ((t,.bool true)::E) L Φ) (h:JD P n X b (i+k) m K ((p,.bool (g&&x))::E) L Φ)
  (e:E.lookup t=some (.bool g):=by rfl) (d:A2k P n b k i ((t,.bool false)::E) [(p,.bool false)]=some [(p,.bool false)]:=by kernel_rfl):JD P n X b i (k+m) K E L Φ:=E2t k m t p x e d c h
theorem zdO {b:Array Oper} {i:Nat} (k m t p:Nat) {g:Bool} (x:Bool) (c:g=false→JD P n X b i k (fun a _=>a.tmps.size=n∧a.defers=X.marks∧Has a ((p,.bool x)::E)) ((t,.bool false)::E) L Φ) (h:JD P n X b (i+k) m K ((p,.bool (g||x))::E) L Φ)
  (e:E.lookup t=some (.bool g):=by rfl) (d:A2k P n b k i ((t,.bool true)::E) [(p,.bool true)]=some [(p,.bool true)]:=by kernel_rfl):JD P n X b i (k+m) K E L Φ:=dor k m t p x e d c h
def zml (m k:Nat):Array Bool:=((List.range m).map k.testBit).toArray
theorem zhk {c:Array Oper} {d:Nat} {a:Array Bool} {b:A0z} {Φs:List Pers} (i:Nat) {o:Oper} {v:Value} (listed':Array Bool) (e:c[i]?=some o) (g:G7 P X o E (b.of c i) Φs v) (h:JH P n X c d listed' K b Φs (Env.put E o.dst v) L Φ)
  (k:B0l c o E=some true:=by rfl) (f:X1 n o.dst=true:=by rfl) (j:B0o c b a i=true:=by kernel_rfl) (l:a.setIfInBounds i true=listed':=by kernel_rfl):JH P n X c (d+1) a K b Φs E L Φ :=
 E3v i _ listed' e k f j rfl l g h
theorem zhl {c:Array Oper} {d:Nat} {a:Array Bool} {b:A0z} {Φs:List Pers} (i:Nat) {o:Oper} {v:Value} (Ls:Own) (listed':Array Bool) (f:c[i]?=some o) (j:G7 P X o E Ls Φs v) (h:JH P n X c d listed' K b Φs (Env.put E o.dst v) L Φ)
  (l:B0l c o E=some true:=by rfl) (g:X1 n o.dst=true:=by rfl) (k:B0o c b a i=true:=by kernel_rfl) (e:b.of c i=Ls:=by kernel_rfl) (m:a.setIfInBounds i true=listed':=by kernel_rfl):JH P n X c (d+1) a K b Φs E L Φ :=
 E3v i Ls listed' f l g k e m j h
theorem zho {c:Array Oper} {d:Nat} {a:Array Bool} {b:A0z} {Φs:List Pers} (i:Nat) {o:Oper} {α:Type} {val:α→Value} {L':α→Own} {Φ':α→List Pers} (Lh:Own) (listed':Array Bool) (f:c[i]?=some o) (l:Tri P n X o E L Φ α val L' Φ') (e:∀ x,Lh.Sublist (L' x)) (hΦ':∀ x,B0 (Φ' x) Φs)
  (h:∀ x,JH P n X c d listed' K b Φs (Env.put E o.dst (val x)) (L' x) (Φ' x)) (g:B0l c o E=some true:=by rfl) (k:X1 n o.dst=true:=by rfl) (hr:Region.ready .any c a=[i]:=by kernel_rfl) (m:a.setIfInBounds i true=listed':=by kernel_rfl) (j:b.at listed'=Lh:=by kernel_rfl) :
  JH P n X c (d+1) a K b Φs E L Φ:=hone i Lh listed' f g k hr m j l e hΦ' h
theorem zhp {f:Array Oper} {c:A0z} {Φs:List Pers} (is:List Nat) (d:Nat) {b:Array Bool} (a:Array Bool) (e:Env) (g:JH P n X f d a K c Φs (e++E) L Φ) (h:D7n P n f c is b E e=some (a,e):=by kernel_rfl):JH P n X f (is.length+d) b K c Φs E L Φ:=E4m is d a e h g
theorem zja {ρ:Type} {c:Operand} {x y:Code} {p q:Prop} [Decidable p] [Decidable q] {A B R:ρ} (b:ev E c=some (.bool (decide p&&decide q))) (hR:(bif (decide p&&decide q) then A else B)=R) (a:A=R→(decide p&&decide q)=true→p∧q→J P n X x Q E L Φ) (d:B=R→(decide p&&decide q)=false→¬ (p∧q)→J P n X y Q E L Φ):J P n X (.cond c x y) Q E L Φ :=
 W8 b (fun e=>a (bt hR e) e (by simpa using e)) (fun e=>d (bf hR e) e (by simpa using e))
theorem zjo {ρ:Type} {c:Operand} {x y:Code} {p q:Prop} [Decidable p] [Decidable q] {A B R:ρ} (b:ev E c=some (.bool (decide p||decide q))) (hR:(bif (decide p||decide q) then A else B)=R) (a:A=R→(decide p||decide q)=true→p∨q→J P n X x Q E L Φ) (d:B=R→(decide p||decide q)=false→¬ (p∨q)→J P n X y Q E L Φ):J P n X (.cond c x y) Q E L Φ :=
 W8 b (fun e=>a (bt hR e) e (by simpa using e)) (fun e=>d (bf hR e) e (by simpa using e))
theorem zid {b:Array Oper} {i:Nat} (k m t p:Nat) {g:Prop} [Decidable g] (x:Bool) (c:decide g=true→g→JI P n X b i k (fun a w=>St n X ((p,.bool x)::E) L Φ a w) Q ((t,.bool true)::E) L Φ) (h:JI P n X b (i+k) m K Q ((p,.bool (decide g&&x))::E) L Φ)
  (f:E.lookup t=some (.bool (decide g)):=by rfl) (d:A2k P n b k i ((t,.bool false)::E) [(p,.bool false)]=some [(p,.bool false)]:=by kernel_rfl):JI P n X b i (k+m) K Q E L Φ:=E3x k m t p x f d (fun e=>c e (of_decide_eq_true e)) h
theorem zir {b:Array Oper} {i:Nat} (k m t p:Nat) {g:Prop} [Decidable g] (x:Bool) (c:decide g=false→¬ g→JI P n X b i k (fun a w=>St n X ((p,.bool x)::E) L Φ a w) Q ((t,.bool false)::E) L Φ) (h:JI P n X b (i+k) m K Q ((p,.bool (decide g||x))::E) L Φ)
  (f:E.lookup t=some (.bool (decide g)):=by rfl) (d:A2k P n b k i ((t,.bool true)::E) [(p,.bool true)]=some [(p,.bool true)]:=by kernel_rfl):JI P n X b i (k+m) K Q E L Φ:=ior k m t p x f d (fun e=>c e (of_decide_eq_false e)) h
theorem zdd {b:Array Oper} {i:Nat} (k m t p:Nat) {g:Prop} [Decidable g] (x:Bool) (c:decide g=true→g→JD P n X b i k (fun a _=>a.tmps.size=n∧a.defers=X.marks∧Has a ((p,.bool x)::E)) ((t,.bool true)::E) L Φ) (h:JD P n X b (i+k) m K ((p,.bool (decide g&&x))::E) L Φ)
  (f:E.lookup t=some (.bool (decide g)):=by rfl) (d:A2k P n b k i ((t,.bool false)::E) [(p,.bool false)]=some [(p,.bool false)]:=by kernel_rfl):JD P n X b i (k+m) K E L Φ:=E2t k m t p x f d (fun e=>c e (of_decide_eq_true e)) h
theorem zdr {b:Array Oper} {i:Nat} (k m t p:Nat) {g:Prop} [Decidable g] (x:Bool) (c:decide g=false→¬ g→JD P n X b i k (fun a _=>a.tmps.size=n∧a.defers=X.marks∧Has a ((p,.bool x)::E)) ((t,.bool false)::E) L Φ) (h:JD P n X b (i+k) m K ((p,.bool (decide g||x))::E) L Φ)
  (f:E.lookup t=some (.bool (decide g)):=by rfl) (d:A2k P n b k i ((t,.bool true)::E) [(p,.bool true)]=some [(p,.bool true)]:=by kernel_rfl):JD P n X b i (k+m) K E L Φ:=dor k m t p x f d (fun e=>c e (of_decide_eq_false e)) h
theorem zco {f:FuncId} {a:Func} {c:Code} {args:List Value} {L0:Own} {Φ0:List Pers} {α:Type} {val:α→Value} {L1:α→Own} {Φ1:α→List Pers} (e:P.funcs[f]?=some a) (E0:Env)
  (h:∀ X:Cx,X.M=L0.map Prod.fst→X.rho=none→X.D=[]→J P n X c (C8l P X a α val L1 Φ1) E0 L0 Φ0) (i:a.body=some c:=by rfl) (g:a.ntmps=n:=by rfl) (hE:S5 ((List.range args.length).zip args) E0:=by repeat' first|exact trivial|refine ⟨rfl,?_⟩)
  (b : (a.name == "runtime.NumGoroutine") = false := by kernel_rfl) (d : Nat.ble args.length n = true := by rfl) : Con P f args L0 Φ0 α val L1 Φ1 := D0p e i b g d E0 hE h
abbrev zq {k:Nat} (q:Option Addr) (c:Nat) (a:k≤c:=by first|omega|(simp only [List.length_take,List.length_drop,List.length_append,List.length_cons,List.length_nil,List.length_set,List.length_map];omega)|(simp<;>omega)|decide) (b:k≤9223372036854775807:=by first|omega|(simp only [List.length_take,List.length_drop,List.length_append,List.length_cons,List.length_nil,List.length_set,List.length_map];omega)|(simp<;>omega)|decide):{t:Option Addr×Nat // k≤t.2∧k≤9223372036854775807}:=⟨(q,c),a,b⟩
end
end Go.Fen
set_option linter.unusedVariables false
namespace Go.Fen
open Go Go.RowKit
section
variable {P:Program} {n:Nat} {X:Cx} {K:Act→World→Prop} {Q:Exit→Act→World→Prop} {E E':Env} {L L':Own} {Φ Φ':List Pers}
theorem A5o {c:Code} {β1:Type} (F:β1→Prop×Env×Own×List Pers×Nat) (b:β1) (e:(F b).1) (f:List.Sublist (F b).2.2.1 L) (hΦ:B0 Φ (F b).2.2.2.1) (h:∀ b,(F b).1→J P n X c (Exit.then (fun a w=>∃ d,(F d).1∧(F d).2.2.2.2<(F b).2.2.2.2∧St n X (F d).2.1 (F d).2.2.1 (F d).2.2.2.1 a w) Q) (F b).2.1 (F b).2.2.1 (F b).2.2.2.1) (hE:S5 E (F b).2.1:=by repeat' first|exact trivial|refine ⟨rfl,?_⟩|refine ⟨by first|rfl|(simp only [List.length_set,List.length_append,List.length_cons,List.length_nil];rfl)|(simp;done)|(simp;omega),?_⟩):J P n X (.loop c) Q E L Φ :=
 JL1 (fun b=>(F b).1) (fun b=>(F b).2.1) (fun b=>(F b).2.2.1) (fun b=>(F b).2.2.2.1) (fun b=>(F b).2.2.2.2) b e hE f hΦ h
theorem A1r {β1:Type} {F:β1→Prop×Env×Own×List Pers×Nat} {z1:β1} (b:β1) (e:(F b).1) (hμ:(F b).2.2.2.2<(F z1).2.2.2.2) (f:List.Sublist (F b).2.2.1 L) (hΦ:B0 Φ (F b).2.2.2.1) (hE:S5 E (F b).2.1:=by repeat' first|exact trivial|refine ⟨rfl,?_⟩|refine ⟨by first|rfl|(simp only [List.length_set,List.length_append,List.length_cons,List.length_nil];rfl)|(simp;done)|(simp;omega),?_⟩):JQ n X (fun a w=>∃ c,(F c).1∧(F c).2.2.2.2<(F z1).2.2.2.2∧St n X (F c).2.1 (F c).2.2.1 (F c).2.2.2.1 a w) E L Φ :=
 fun _ _ d=>⟨b,e,hμ,d.size,d.defers,d.has.weaken (Q7 hE),(d.world.sub f).foll hΦ⟩
theorem C1d {x y:Code} {β1:Type} (F:β1→Prop×Env×Own×List Pers) (c:J P n X x (Exit.then (fun a w=>∃ b,(F b).1∧St n X (F b).2.1 (F b).2.2.1 (F b).2.2.2 a w) Q) E L Φ) (d:∀ b,(F b).1→J P n X y Q (F b).2.1 (F b).2.2.1 (F b).2.2.2):J P n X (.seq x y) Q E L Φ :=
 JS1 (fun b=>(F b).1) (fun b=>(F b).2.1) (fun b=>(F b).2.2.1) (fun b=>(F b).2.2.2) c d
theorem A5f {β1:Type} {F:β1→Prop×Env×Own×List Pers} (b:β1) (e:(F b).1) (f:List.Sublist (F b).2.2.1 L) (hΦ:B0 Φ (F b).2.2.2) (hE:S5 E (F b).2.1:=by repeat' first|exact trivial|refine ⟨rfl,?_⟩|refine ⟨by first|rfl|(simp only [List.length_set,List.length_append,List.length_cons,List.length_nil];rfl)|(simp;done)|(simp;omega),?_⟩):JQ n X (fun a w=>∃ d,(F d).1∧St n X (F d).2.1 (F d).2.2.1 (F d).2.2.2 a w) E L Φ :=
 fun _ _ c=>⟨b,e,c.size,c.defers,c.has.weaken (Q7 hE),(c.world.sub f).foll hΦ⟩
theorem D9c {c:Code} {β1 β2 β3 β4:Type} (F:β1→β2→β3→β4→Prop×Env×Own×List Pers×Nat) (b:β1) (e:β2) (f:β3) (d:β4) (l:(F b e f d).1) (m:List.Sublist (F b e f d).2.2.1 L) (hΦ:B0 Φ (F b e f d).2.2.2.1) (h:∀ b e f d,(F b e f d).1→J P n X c (Exit.then (fun a w=>∃ g k i j,(F g k i j).1∧(F g k i j).2.2.2.2<(F b e f d).2.2.2.2∧St n X (F g k i j).2.1 (F g k i j).2.2.1 (F g k i j).2.2.2.1 a w) Q) (F b e f d).2.1 (F b e f d).2.2.1 (F b e f d).2.2.2.1) (hE:S5 E (F b e f d).2.1:=by repeat' first|exact trivial|refine ⟨rfl,?_⟩|refine ⟨by first|rfl|(simp only [List.length_set,List.length_append,List.length_cons,List.length_nil];rfl)|(simp;done)|(simp;omega),?_⟩):J P n X (.loop c) Q E L Φ :=
 JL4 (fun b e f d=>(F b e f d).1) (fun b e f d=>(F b e f d).2.1) (fun b e f d=>(F b e f d).2.2.1) (fun b e f d=>(F b e f d).2.2.2.1) (fun b e f d=>(F b e f d).2.2.2.2) b e f d l hE m hΦ h
theorem D8p {β1 β2 β3 β4:Type} {F:β1→β2→β3→β4→Prop×Env×Own×List Pers×Nat} {z1:β1} {z2:β2} {z3:β3} {z4:β4} (d:β1) (c:β2) (e:β3) (b:β4) (m:(F d c e b).1) (hμ:(F d c e b).2.2.2.2<(F z1 z2 z3 z4).2.2.2.2) (l:List.Sublist (F d c e b).2.2.1 L) (hΦ:B0 Φ (F d c e b).2.2.2.1) (hE:S5 E (F d c e b).2.1:=by repeat' first|exact trivial|refine ⟨rfl,?_⟩|refine ⟨by first|rfl|(simp only [List.length_set,List.length_append,List.length_cons,List.length_nil];rfl)|(simp;done)|(simp;omega),?_⟩):JQ n X (fun a w=>∃ f g i j,(F f g i j).1∧(F f g i j).2.2.2.2<(F z1 z2 z3 z4).2.2.2.2∧St n X (F f g i j).2.1 (F f g i j).2.2.1 (F f g i j).2.2.2.1 a w) E L Φ :=
 fun _ _ k=>⟨d,c,e,b,m,hμ,k.size,k.defers,k.has.weaken (Q7 hE),(k.world.sub l).foll hΦ⟩
theorem E3h {x y:Code} {β1 β2 β3 β4:Type} (F:β1→β2→β3→β4→Prop×Env×Own×List Pers) (f:J P n X x (Exit.then (fun a w=>∃ b d e c,(F b d e c).1∧St n X (F b d e c).2.1 (F b d e c).2.2.1 (F b d e c).2.2.2 a w) Q) E L Φ) (g:∀ b d e c,(F b d e c).1→J P n X y Q (F b d e c).2.1 (F b d e c).2.2.1 (F b d e c).2.2.2):J P n X (.seq x y) Q E L Φ :=
 JS4 (fun b d e c=>(F b d e c).1) (fun b d e c=>(F b d e c).2.1) (fun b d e c=>(F b d e c).2.2.1) (fun b d e c=>(F b d e c).2.2.2) f g
theorem D7t {β1 β2 β3 β4:Type} {F:β1→β2→β3→β4→Prop×Env×Own×List Pers} (b:β1) (e:β2) (c:β3) (d:β4) (l:(F b e c d).1) (m:List.Sublist (F b e c d).2.2.1 L) (hΦ:B0 Φ (F b e c d).2.2.2) (hE:S5 E (F b e c d).2.1:=by repeat' first|exact trivial|refine ⟨rfl,?_⟩|refine ⟨by first|rfl|(simp only [List.length_set,List.length_append,List.length_cons,List.length_nil];rfl)|(simp;done)|(simp;omega),?_⟩):JQ n X (fun a w=>∃ g j k i,(F g j k i).1∧St n X (F g j k i).2.1 (F g j k i).2.2.1 (F g j k i).2.2.2 a w) E L Φ :=
 fun _ _ f=>⟨b,e,c,d,l,f.size,f.defers,f.has.weaken (Q7 hE),(f.world.sub m).foll hΦ⟩
theorem E4v {c:Code} {β1 β2 β3 β4 β5 β6 β7:Type} (F:β1→β2→β3→β4→β5→β6→β7→Prop×Env×Own×List Pers×Nat) (e:β1) (f:β2) (g:β3) (j:β4) (d:β5) (b:β6) (i:β7) (t:(F e f g j d b i).1) (s:List.Sublist (F e f g j d b i).2.2.1 L) (hΦ:B0 Φ (F e f g j d b i).2.2.2.1) (h:∀ e f g j d b i,(F e f g j d b i).1→J P n X c (Exit.then (fun a w=>∃ p m r k o l q,(F p m r k o l q).1∧(F p m r k o l q).2.2.2.2<(F e f g j d b i).2.2.2.2∧St n X (F p m r k o l q).2.1 (F p m r k o l q).2.2.1 (F p m r k o l q).2.2.2.1 a w) Q) (F e f g j d b i).2.1 (F e f g j d b i).2.2.1 (F e f g j d b i).2.2.2.1) (hE:S5 E (F e f g j d b i).2.1:=by repeat' first|exact trivial|refine ⟨rfl,?_⟩|refine ⟨by first|rfl|(simp only [List.length_set,List.length_append,List.length_cons,List.length_nil];rfl)|(simp;done)|(simp;omega),?_⟩):J P n X (.loop c) Q E L Φ :=
 JL7 (fun e f g j d b i=>(F e f g j d b i).1) (fun e f g j d b i=>(F e f g j d b i).2.1) (fun e f g j d b i=>(F e f g j d b i).2.2.1) (fun e f g j d b i=>(F e f g j d b i).2.2.2.1) (fun e f g j d b i=>(F e f g j d b i).2.2.2.2) e f g j d b i t hE s hΦ h
theorem E4f {β1 β2 β3 β4 β5 β6 β7:Type} {F:β1→β2→β3→β4→β5→β6→β7→Prop×Env×Own×List Pers×Nat} {z1:β1} {z2:β2} {z3:β3} {z4:β4} {z5:β5} {z6:β6} {z7:β7} (f:β1) (d:β2) (i:β3) (b:β4) (e:β5) (c:β6) (g:β7) (t:(F f d i b e c g).1) (hμ:(F f d i b e c g).2.2.2.2<(F z1 z2 z3 z4 z5 z6 z7).2.2.2.2) (s:List.Sublist (F f d i b e c g).2.2.1 L) (hΦ:B0 Φ (F f d i b e c g).2.2.2.1) (hE:S5 E (F f d i b e c g).2.1:=by repeat' first|exact trivial|refine ⟨rfl,?_⟩|refine ⟨by first|rfl|(simp only [List.length_set,List.length_append,List.length_cons,List.length_nil];rfl)|(simp;done)|(simp;omega),?_⟩):JQ n X (fun a w=>∃ l m o q k j p,(F l m o q k j p).1∧(F l m o q k j p).2.2.2.2<(F z1 z2 z3 z4 z5 z6 z7).2.2.2.2∧St n X (F l m o q k j p).2.1 (F l m o q k j p).2.2.1 (F l m o q k j p).2.2.2.1 a w) E L Φ :=
 fun _ _ r=>⟨f,d,i,b,e,c,g,t,hμ,r.size,r.defers,r.has.weaken (Q7 hE),(r.world.sub s).foll hΦ⟩
theorem zst {o:Oper} {T U:TypeId} {x y:Operand} {a b:List UInt8} (c:o.op=.binOp .add T x y U) (d:ev E x=some (.string (bs a))) (e:ev E y=some (.string (bs b))) (h:a.length+b.length≤9223372036854775807:=by first|omega|(simp only [List.length_cons,List.length_nil,List.length_append,List.length_take,List.length_drop];omega)):G7 P X o E L Φ (.string (bs (a++b))):=C7x c d e h
end
end Go.Fen
set_option linter.unusedVariables false
set_option linter.unusedSimpArgs false
namespace Go.Fen
open Go Go.RowKit
section
variable {P:Program} {n:Nat} {X:Cx} {K:Act→World→Prop} {Q:Exit→Act→World→Prop} {E E':Env} {L L':Own} {Φ Φ':List Pers}
theorem Tri.own {o:Oper} {α:Type} {val:α→Value} {L1:α→Own} {Φ1:α→List Pers} (h:Tri P n X o E L Φ α val L1 Φ1) (L':α→Own) (a:∀ x,L1 x=L' x):Tri P n X o E L Φ α val L' Φ1:=by
 obtain rfl:L1=L':=funext a
 exact h
end
end Go.Fen
set_option linter.unusedVariables false
set_option linter.unusedSimpArgs false
namespace Go.Fen
open Go Go.RowKit
section
variable {P:Program} {n:Nat} {X:Cx} {K:Act→World→Prop} {Q:Exit→Act→World→Prop} {E E':Env} {L L':Own} {Φ Φ':List Pers}
theorem C1r {T e sz ty b off dLen dCap sLen sCap TT:Nat} {a:Addr} {w:World} {cs us:List Value} (f:SlTy P T e sz) (i:w.heap[b]?=some (.cells cs.toArray TT (0,0))) (h:us.length=Nat.min sLen dLen * sz) (c:∀ j v,us[j]?=some v→w.cell? (a.add j)=some v)
  (hone:∀ v ∈ us,v.oneCell'=true) (d:off+us.length≤cs.length) :
  (Builtin.copy_ #[T,T] ty #[.slice (some ⟨b,off,none⟩) dLen dCap,.slice (some a) sLen sCap]).run P w=.ok (goInt (Nat.min sLen dLen)) (w.setRow b (A0q cs us off).toArray):=by
 have k:=run_firstCells_some (P:=P) w sz (Nat.min sLen dLen) a sLen sCap us h c
 have g:=run_storeCells_at P b off TT us 0 cs.toArray w i (by simpa using d) hone
 simp only [Builtin.copy_,Sem.run_bind,run_underlying f.ty,Result.andThen_ok,f.run,Builtin.lenOf]
 simp [k,g,A0q,Builtin.lenOf,run_underlying f.ty,f.run]
theorem B6v {T e sz ty dLen dCap sLen sCap:Nat} {d s:Option Addr} {w:World} (a:SlTy P T e sz) (c:Nat.min sLen dLen=0) :
  (Builtin.copy_ #[T,T] ty #[.slice d dLen dCap,.slice s sLen sCap]).run P w=.ok (goInt 0) w:=by
 have b:∀ (x:Addr),(loadCells x 0).run P w=.ok #[] w:=fun x=>by simpa using run_loadCells_list (P:=P) w x [] oom
 cases d<;>cases s<;>simp [Builtin.copy_,run_underlying a.ty,a.run,Builtin.lenOf,Builtin.firstCells,c,storeCells,b]
theorem B3f {α:Type} {f:α→List Value} {sz:Nat} (a:∀ x,(f x).length=sz) (xs:List α) (k:Nat):(xs.take k).flatMap f=(xs.flatMap f).take (k * sz):=by
 induction xs generalizing k with
 | nil=>simp
 | cons x xs ih =>
  cases k with
  | zero=>simp
  | succ k =>
   rw [List.take_succ_cons,List.flatMap_cons,List.flatMap_cons,ih,Nat.succ_mul,List.take_append,a,Nat.add_sub_cancel,List.take_of_length_le (l:=f x) (by rw [a];omega)]
theorem C9g {α:Type} {f:α→List Value} {sz:Nat} (a:∀ x,(f x).length=sz) (xs:List α) (k:Nat):(xs.drop k).flatMap f=(xs.flatMap f).drop (k * sz):=by
 induction xs generalizing k with
 | nil=>simp
 | cons x xs ih =>
  cases k with
  | zero=>simp
  | succ k =>
   rw [List.drop_succ_cons,List.flatMap_cons,ih,Nat.succ_mul,List.drop_append,a,Nat.add_sub_cancel,List.drop_of_length_le (l:=f x) (by rw [a];omega),List.nil_append]
theorem D1b {α:Type} {f:α→List Value} {sz:Nat} (a:∀ x,(f x).length=sz) (xs ys:List α) (j:List Value) (l:Nat) (h:l+ys.length≤xs.length):A0q (xs.flatMap f++j) (ys.flatMap f) (l * sz)=(xs.take l++(ys++xs.drop (l+ys.length))).flatMap f++j:=by
 have c:l * sz≤(xs.flatMap f).length:=by rw [F5 a];exact Nat.mul_le_mul_right _ opx
 have b:l * sz+ys.length * sz≤(xs.flatMap f).length:=by rw [F5 a,← Nat.add_mul];exact Nat.mul_le_mul_right _ h
 unfold A0q
 rw [F5 a ys,List.take_append_of_le_length c,List.drop_append_of_le_length b,List.flatMap_append,List.flatMap_append,B3f a,C9g a,Nat.add_mul]
 simp only [List.append_assoc]
theorem StW.vec {T:Nat} {α:Type} {f:α→List Value} {b k:Nat} {j:List Value} {xs ys:List α} {pre post:Own} {w:World} (a:StW X (pre++(vo f T ⟨some b,k,j⟩ xs++post)) Φ w):StW X (pre++(vo f T ⟨some b,k,j⟩ ys++post)) Φ (w.setRow b (ys.flatMap f++j).toArray):=by
 have i:w.heap[b]?=some (.cells (xs.flatMap f++j).toArray T (0,0)):=by
  obtain ⟨p,c⟩:=a
  exact (c.own.1 (bx b (xs.flatMap f++j) T) (List.mem_append_right _ (List.mem_append_left _ (by unfold vo;simp)))).1
 have g:(pre++(vo f T ⟨some b,k,j⟩ xs++post))[pre.length]?=some (bx b (xs.flatMap f++j) T):=by simp [vo]
 have h:=a.set (w':=w.setRow b (ys.flatMap f++j).toArray) g (setRow_heap w b _ _ T (0,0) i) (fun k d=>setRow_other w b k _ d) rfl rfl rfl oom
 have e:(pre++(vo f T ⟨some b,k,j⟩ xs++post)).set pre.length (bx b (ys.flatMap f++j) T)=pre++(vo f T ⟨some b,k,j⟩ ys++post):=by simp [vo]
 rw [← e];exact h
theorem D4z {o:Oper} {c:Call} {T e sz:Nat} {x y:Operand} {α:Type} {f:α→List Value} {r:VR} {xs ys:List α} {q:Option Addr} {m cc:Nat} {pre post:Own} (hT:SlTy P T e sz) (hf:∀ x,(f x).length=sz) (a2:∀ x,(f x).all (·.oneCell')=true)
  (ho:o.op=.call c) (hc:c.callee=.builtin .copy) (a8:c.args=#[x,y]) (a3:c.argTypes=#[T,T]) (hx:ev E x=some (vv r xs.length)) (hy:ev E y=some (.slice q m cc)) (hm:m=ys.length) (hL:L=pre++(vo f e r xs++post))
  (hq:R0 Φ (sl f q ys)) (a5:VOk sz xs.length r) :
  Tri P n X o E L Φ Unit (fun _=>.int .i64 ((min ys.length xs.length:Nat):Int)) (fun _=>pre++(vo f e r (ys.take xs.length++xs.drop ys.length)++post)) (fun _=>Φ):=by
 subst hm
 intro ac w K Q hs hk
 have v:=hs.world
 rw [hL] at v
 obtain ⟨w',d,hw'⟩:∃ w',(Builtin.copy_ #[T,T] o.type #[vv r xs.length,.slice q ys.length cc]).run P w=.ok (goInt (Nat.min ys.length xs.length)) w'∧StW X (pre++(vo f e r (ys.take xs.length++xs.drop ys.length)++post)) Φ w':=by
  obtain ⟨rq,rk,t⟩:=r
  by_cases h0:Nat.min ys.length xs.length=0
  ·refine ⟨w,by rw [h0];exact B6v hT h0,?_⟩
   have e:ys.take xs.length++xs.drop ys.length=xs:=by
    rcases Nat.eq_zero_or_pos xs.length with s | s
    ·have:=List.eq_nil_of_length_eq_zero s;subst this;simp
    ·have a7:ys.length=0:=by have h1:min ys.length xs.length=0:=h0;omega
     have:=List.eq_nil_of_length_eq_zero a7;subst this;simp
   rw [e];exact v
  ·have a4:¬ min ys.length xs.length=0:=h0
   cases rq with
   | none =>
    have h9:xs.length=0∧rk=0:=a5
    omega
   | some b =>
    obtain ⟨p,z⟩:=v
    have v:StW X (pre++(vo f e ⟨some b,rk,t⟩ xs++post)) Φ w:=⟨p,z⟩
    have i:=hq p z.facts
    cases q with
    | none=>have h9:ys=[]:=i;subst h9;simp at a4
    | some a =>
     have k:A5k p a (ys.flatMap f):=i
     have hg:w.heap[b]?=some (.cells (xs.flatMap f++t).toArray e (0,0)):=(z.own.1 (bx b (xs.flatMap f++t) e) (List.mem_append_right _ (List.mem_append_left _ (by unfold vo;simp)))).1
     have l:((ys.take xs.length).flatMap f).length=Nat.min ys.length xs.length * sz:=by rw [F5 hf,List.length_take,Nat.min_comm]
     have d:=C1r (P:=P) (ty:=o.type) (b:=b) (off:=0) (dLen:=xs.length) (dCap:=rk) (sLen:=ys.length) (sCap:=cc) (a:=a) (w:=w) (cs:=xs.flatMap f++t) (us:=(ys.take xs.length).flatMap f) hT hg l
      (fun j u hj=>k.cell z.sub (by
       rw [B3f hf,List.getElem?_take] at hj
       split at hj
       ·exact hj
       ·cases hj)) (B4p a2 _) (by rw [l,List.length_append,F5 hf];have:Nat.min ys.length xs.length≤xs.length:=Nat.min_le_right _ _;have:=Nat.mul_le_mul_right sz this;omega)
     have g:=D1b hf xs (ys.take xs.length) t 0 (by rw [List.length_take];omega)
     rw [Nat.zero_mul,List.take_zero,List.nil_append,Nat.zero_add] at g
     have hd:xs.drop (ys.take xs.length).length=xs.drop ys.length:=by
      rw [List.length_take]
      by_cases h:ys.length≤xs.length
      ·rw [Nat.min_eq_right h]
      ·rw [Nat.min_eq_left opx,List.drop_of_length_le (Nat.le_refl _),List.drop_of_length_le opx]
     rw [hd] at g
     rw [g] at d
     exact ⟨_,d,v.vec (ys:=ys.take xs.length++xs.drop ys.length)⟩
 refine A7c (by rw [ho];rfl) ?_
 unfold Oper.wp
 rw [show (execOp ac.eval o).run P w=.ok (.value (goInt (Nat.min ys.length xs.length))) w' by
  simp [execOp,ho,resolve,hc,a8,a3,C4 hs.has hx,C4 hs.has hy,invoke,builtin,d]]
 exact hk () w' hw'
theorem D5b {o:Oper} {c:Call} {T e sz:Nat} {x y:Operand} {α:Type} {f:α→List Value} {r:VR} {xs:List α} {l h dn dk:Nat} {pre post:Own} (hT:SlTy P T e sz) (hf:∀ x,(f x).length=sz) (a2:∀ x,(f x).all (·.oneCell')=true)
  (ho:o.op=.call c) (hc:c.callee=.builtin .copy) (a7:c.args=#[x,y]) (a5:c.argTypes=#[T,T]) (hx:ev E x=some (.slice (B8j (va r.q) l sz r.k) dn dk)) (hy:ev E y=some (.slice (va r.q) h r.k)) (hL:L=pre++(vo f e r xs++post)) (a0:VOk sz xs.length r) (h1:l+dn=xs.length) (h2:h≤xs.length) :
  Tri P n X o E L Φ Unit (fun _=>.int .i64 ((min h dn:Nat):Int)) (fun _=>pre++(vo f e r (xs.take l++(xs.take (min h dn)++xs.drop (l+min h dn)))++post)) (fun _=>Φ):=by
 intro ac w K Q hs hk
 have z:=hs.world
 rw [hL] at z
 obtain ⟨w',d,hw'⟩:∃ w',(Builtin.copy_ #[T,T] o.type #[.slice (B8j (va r.q) l sz r.k) dn dk,.slice (va r.q) h r.k]).run P w=.ok (goInt (Nat.min h dn)) w'∧StW X (pre++(vo f e r (xs.take l++((xs.take (Nat.min h dn))++xs.drop (l+Nat.min h dn)))++post)) Φ w':=by
  obtain ⟨rq,m,s⟩:=r
  by_cases h0:Nat.min h dn=0
  ·refine ⟨w,by rw [h0];exact B6v hT h0,?_⟩
   rw [h0,List.take_zero,List.nil_append,Nat.add_zero,List.take_append_drop];exact z
  ·have al:¬ min h dn=0:=h0
   cases rq with
   | none =>
    have h9:xs.length=0∧m=0:=a0
    omega
   | some b =>
    obtain ⟨p,hp⟩:=z
    have z:StW X (pre++(vo f e ⟨some b,m,s⟩ xs++post)) Φ w:=⟨p,hp⟩
    have ad:xs.length * sz+s.length=m * sz∧xs.length≤m∧m≤maxLen:=a0
    have t:B8j (va (some b)) l sz m=some ⟨b,l * sz,none⟩:=by
     unfold B8j
     rw [if_neg opx]
     simp [va,Z4]
    have hg:w.heap[b]?=some (.cells (xs.flatMap f++s).toArray e (0,0)):=(hp.own.1 (bx b (xs.flatMap f++s) e) (List.mem_append_right _ (List.mem_append_left _ (by unfold vo;simp)))).1
    have a8:Nat.min h dn≤h:=Nat.min_le_left _ _
    have a3:Nat.min h dn≤dn:=Nat.min_le_right _ _
    have g:((xs.take (Nat.min h dn)).flatMap f).length=Nat.min h dn * sz:=by rw [F5 hf,List.length_take,Nat.min_eq_left opx]
    have d:=C1r (P:=P) (ty:=o.type) (b:=b) (off:=l * sz) (dLen:=dn) (dCap:=dk) (sLen:=h) (sCap:=m) (a:=⟨b,0,none⟩) (w:=w) (cs:=xs.flatMap f++s) (us:=(xs.take (Nat.min h dn)).flatMap f) hT hg g
     (fun j u v=>by
      rw [Z4]
      simp only [World.cell?,hg,Nat.zero_add]
      rw [B3f hf,List.getElem?_take] at v
      split at v
      ·rw [List.getElem?_toArray,List.getElem?_append_left (List.getElem?_eq_some_iff.1 v).1];exact v
      ·cases v) (B4p a2 _) (by rw [g,List.length_append,F5 hf,← Nat.add_mul];have:=Nat.mul_le_mul_right sz (show l+Nat.min h dn≤xs.length by omega);omega)
    have i:=D1b hf xs (xs.take (Nat.min h dn)) s l (by rw [List.length_take,Nat.min_eq_left opx];omega)
    rw [List.length_take,Nat.min_eq_left (by omega:Nat.min h dn≤xs.length)] at i
    rw [i] at d
    rw [t]
    exact ⟨_,d,z.vec (ys:=xs.take l++((xs.take (Nat.min h dn))++xs.drop (l+Nat.min h dn)))⟩
 refine A7c (by rw [ho];rfl) ?_
 unfold Oper.wp
 rw [show (execOp ac.eval o).run P w=.ok (.value (goInt (Nat.min h dn))) w' by
  simp [execOp,ho,resolve,hc,a7,a5,C4 hs.has hx,C4 hs.has hy,invoke,builtin,d]]
 exact hk () w' hw'
end
end Go.Fen
set_option linter.unusedVariables false
set_option linter.unusedSimpArgs false
namespace Go.Fen
open Go Go.RowKit
structure Rwq where
 s:Slc
 b:Bool
def K1 (r:Rwq):List Value:=[.slice r.s.q r.s.n r.s.k,.bool r.b]
def B5j (P:Program) (a:FuncId) (d:List Value) (L1:Own) (Φ0:List Pers) {α:Type} (c:α→List Value) (xs:List (List α)):Prop :=
 HasBody P a∧∀ (l:Nat) (w:World) (h:Hp) (I:List (List α)→Own→List Pers→Prop) (Ix:Own→List Pers→Prop) (L:Own) (Φ:List Pers),I xs L Φ→(∀ q ∈ Φ0,q.p h)→(∀ q ∈ Φ,q.p h)→h.sub w→A0u (L1++L) h w →
  (∀ x rest L Φ q k,x.length≤k→x.length≤9223372036854775807→I (x::rest) L Φ→B5f P l (.slice q x.length k) L (sl c q x::Φ) fun b L' Φ'=>if b then I rest L' Φ' else Ix L' Φ') →
  Calls P a (#[.func (.yield l) #[] #[]]++d.toArray) w fun e w'=>(∃ v,e=.returned v)∧∃ L' Φ',(I [] L' Φ'∨Ix L' Φ')∧StW (cx w h ((L1++L).map Prod.fst)) L' Φ' w'
section
variable {P:Program} {n:Nat} {X:Cx} {K:Act→World→Prop} {Q:Exit→Act→World→Prop} {E E':Env} {L L':Own} {Φ Φ':List Pers}
theorem C6d {t:FuncId} {i:Func} {c:Code} {a:List Value} {Φ0:List Pers} {α:Type} {cc:α→List Value} {xs:List (List α)} (L1:Own)
  (r : P.funcs[t]? = some i) (m : i.body = some c) (o : (i.name == "runtime.NumGoroutine") = false) (s : i.ntmps = n) (j : Nat.ble (a.length + 1) n = true) (E0 : Nat → Env) (hE : ∀ l, S5 ((List.range (a.length + 1)).zip (.func (.yield l) #[] #[] :: a)) (E0 l))
  (h:∀ (X:Cx) (l:Nat) (I:List (List α)→Own→List Pers→Prop) (Ix:Own→List Pers→Prop) (L:Own) (Φ:List Pers),X.M=(L1++L).map Prod.fst→X.rho=none→X.D=[]→I xs L Φ →
   (∀ x rest L Φ q k,x.length≤k→x.length≤9223372036854775807→I (x::rest) L Φ→B5f P l (.slice q x.length k) L (sl cc q x::Φ) fun b L' Φ'=>if b then I rest L' Φ' else Ix L' Φ')→J P n X c (D1e P X i fun L' Φ'=>I [] L' Φ'∨Ix L' Φ') (E0 l) (L1++(L++[])) (Φ0++Φ)):B5j P t a L1 Φ0 cc xs:=by
 refine ⟨⟨by simp [r,m,o]⟩,fun l w p I Ix L Φ hI hΦ0 hΦ hs ho hy=>?_⟩
 have f:(#[.func (.yield l) #[] #[]]++a.toArray:Array Value)=(Value.func (.yield l) #[] #[]::a).toArray:=by simp
 rw [f]
 simp only [List.append_nil] at h
 refine (callsIn_wide (n:=0)).1 (callsIn_of_wp_marks (F:=Fence.wide) r m trivial (h (cx w p ((L1++L).map Prod.fst)) l I Ix L Φ rfl rfl rfl hI hy _ w ⟨?_,rfl,?_,p,⟨?_,hs,Hp.le_refl p,fun b m=>.inl m,ho,fun e v=>.inl (List.mem_map_of_mem v),KeptBut.refl _ w,fun d y=>(by cases y)⟩⟩))
 ·have u:a.length+1≤n:=Nat.le_of_ble_eq_true j
  simp [s];omega
 ·rw [s]
  exact B5y (args:=Value.func (.yield l) #[] #[]::a) j (hE l)
 ·intro q g
  rcases List.mem_append.1 g with g | g
  ·exact hΦ0 q g
  ·exact hΦ q g
theorem D8a {g:Operand} {p:Nat} {ps:Array Tmp} {assign body:Code} {gf:FuncId} {lb:List Value} {Φ0:List Pers} {α:Type} {cc:α→List Value} {xs:List (List α)}
  (af:X.rho=none) (hg:ev E g=some (.func (.func gf) #[] lb.toArray)) {L1:Own} (ap:B5j P gf lb L1 Φ0 cc xs) (hΦ0:B0 Φ Φ0) (b4:ps=#[p]) (b2:X1 n (some p)=true)
  {σ:Type} (I:List (List α)→σ→Prop) (Jx:Code→σ→Prop) (Lk:σ→Own) (Φk:σ→List Pers) (s0:σ) (h0:I xs s0) (hL:(Lk s0++L1).Sublist L) (hΦ:B0 Φ (Φk s0))
  (a7:∀ x rest s q k,x.length≤k→x.length≤9223372036854775807→I (x::rest) s→∀ (Y Y':Cx) (K:Act→World→Prop),Y.rho.isSome=true →
   (∀ E L Φ,J P n Y' body (RP Y' I Jx Lk Φk rest) E L Φ→JQ n Y K E L Φ)→J P n Y assign (Exit.then K (fun _ _ _=>False)) (Env.put E (some p) (.slice q x.length k)) (Lk s) (sl cc q x::Φk s))
  (a8:∀ d s,d ∉ X.D.map Prod.fst→I [] s→JQ n (X.wd ((d,.deferred (some []))::X.D)) (Q .normal) E (Lk s) (Φk s))
  (al:∀ d c s,d ∉ X.D.map Prod.fst→Jx c s→J P n (X.wd ((d,.deferred (some []))::X.D)) c Q E (Lk s) (Φk s)):J P n X (.rangeFunc g ps assign body) Q E L Φ:=by
 intro a w hs
 subst b4
 rw [af]
 refine wpIn_rangeFunc ?_
 intro fn _
 obtain ⟨f,hrec⟩:∃ f:LoopState→Option Code→Loop,f=fun st y=>{state:=st,pending:=y,fn,tmps:=a.tmps,params:=#[p],assign,body,defers:=w.heap.size}:=⟨_,rfl⟩
 have he:=run_enterLoop_outer (P:=P) (w:=w) fn a.tmps #[p] assign body
 rw [show ({state:=.ready,pending:=none,fn:=fn,tmps:=a.tmps,params:=#[p],assign:=assign,body:=body,defers:=w.heap.size}:Loop)=f .ready none by rw [hrec]] at he
 obtain ⟨w1,hw1⟩:∃ w1,(w.alloc (.deferred (some []))).alloc (.loop (f .ready none))=w1:=⟨_,rfl⟩
 rw [hw1] at he
 refine ⟨w.heap.size+1,[B7g w.heap.size],w1,{target:=.fn (.func gf) lb.toArray,args:=#[.func (.yield (w.heap.size+1)) #[] #[]]},w1,gf,
  #[.func (.yield (w.heap.size+1)) #[] #[]]++lb.toArray,w1,he,?_,fun _ _=>trivial,?_,A5p,?_⟩
 ·simp only [resolve,C4 hs.has hg]
  simp [go_sem]
 ·simp [invoke,A0p ap.1]
 ·-- the caller's state,the two blocks laid
  have ak:StW X ((w.heap.size+1,.loop (f .ready none))::(w.heap.size,.deferred (some []))::(Lk s0++L1)) Φ w1:=by
   have h1:=(hs.world.sub hL).alloc (.deferred (some []))
   have h2:=h1.alloc (.loop (f .ready none))
   rw [World.size_alloc,hw1] at h2
   exact h2
  have ao:w.heap.size ∉ X.D.map Prod.fst:=fun hm=>by
   obtain ⟨e,ah,hE⟩:=List.mem_map.1 hm
   obtain ⟨q,hq⟩:=hs.world
   have:=(Array.getElem?_eq_some_iff.1 (hq.res e ah).1).1
   omega
  have ax:=ak.perm (L':=L1++((w.heap.size+1,.loop (f .ready none))::(w.heap.size,.deferred (some []))::Lk s0)) (List.perm_append_comm (l₁:=(w.heap.size+1,Obj.loop (f .ready none))::(w.heap.size,Obj.deferred (some []))::Lk s0))
  obtain ⟨q,hq⟩:=ax
  have bk:w.heap.size+1<w1.heap.size:=(Array.getElem?_eq_some_iff.1 (hq.own.1 _ (List.mem_append_right _ (List.mem_cons_self ..))).1).1
  let It:List (List α)→Own→List Pers→Prop:=fun rem L Φ=>∃ s,I rem s∧L=(w.heap.size+1,.loop (f .ready none))::(w.heap.size,.deferred (some []))::Lk s∧Φ=Φk s
  let Itx:Own→List Pers→Prop:=fun L Φ=>∃ c s,Jx c s∧L=(w.heap.size+1,.loop (f .done (some c)))::(w.heap.size,.deferred (some []))::Lk s∧Φ=Φk s
  have ai:=ap.2 (w.heap.size+1) w1 q It Itx _ (Φk s0) ⟨s0,h0,rfl,rfl⟩ (hΦ0 q hq.facts) (hΦ q hq.facts) hq.sub hq.own ?_
  ·refine B1s (ai.mono fun e w' hx=>?_)
   obtain ⟨⟨v,rfl⟩,L',Φ',hI,b7⟩:=hx
   have ar:=StW.call (L0:=L1++((w.heap.size+1,.loop (f .ready none))::(w.heap.size,.deferred (some []))::Lk s0)) (L2:=[]) hq oom b7
   rw [List.append_nil] at ar
   have u:∀ (st:LoopState) (y:Option Code) (s:σ),st≠.busy→L'=(w.heap.size+1,.loop (f st y))::(w.heap.size,.deferred (some []))::Lk s→Φ'=Φk s →
     (Instr.endLoop (w.heap.size+1)).run P w'=.ok y (w'.putObj (w.heap.size+1) (.loop {f st y with state:=.exhausted})) ∧
     St n (X.wd ((w.heap.size,.deferred (some []))::X.D)) E (Lk s) (Φk s) {a with defers:=[B7g w.heap.size]++a.defers} (w'.putObj (w.heap.size+1) (.loop {f st y with state:=.exhausted})):=fun st y s ak m hΦ'=>by
    subst m hΦ'
    obtain ⟨q2,ae⟩:=ar
    have hl:=(ae.own.1 _ (List.mem_cons_self ..)).1
    simp only at hl
    have i:=run_endLoop (P:=P) hl (by rw [hrec];exact ak)
    rw [hrec] at i ⊢
    refine ⟨i,⟨hs.size,?_,hs.has,?_⟩⟩
    ·show [B7g w.heap.size]++a.defers=_
     rw [hs.defers]
     unfold Cx.marks Cx.wd
     simp only [af];rfl
    ·have z:StW X ((w.heap.size,.deferred (some []))::Lk s) (Φk s++Φ) (w'.putObj (w.heap.size+1) (.loop {f st y with state:=.exhausted})):=by
      have h4:=StW.reserve (X:=X) ⟨q2,ae⟩
      have ab:=ae.own.2
      have h5:=StW.take (X:=X) (d:=(w.heap.size+1,.loop (f st y))) (ds:=X.D) ?_ (.loop {f st y with state:=.exhausted}) h4
      ·exact h5
      ·intro hm
       obtain ⟨e,ah,hE⟩:=List.mem_map.1 hm
       obtain ⟨q3,a5⟩:=hs.world
       have:=(Array.getElem?_eq_some_iff.1 (a5.res e ah).1).1
       simp only at hE;omega
     rw [hrec] at z
     exact z.reserve.foll fun p hp q hq=>hp q (List.mem_append_left _ hq)
   rcases hI with ⟨s,hI,m,hΦ'⟩ | ⟨c,s,hI,m,hΦ'⟩
   ·obtain ⟨i,aj⟩:=u .ready none s oom m hΦ'
    exact ⟨none,_,i,a8 _ s ao hI _ _ aj⟩
   ·obtain ⟨i,aj⟩:=u .done (some c) s oom m hΦ'
    have h6:=al _ c s ao hI _ _ aj
    have:(X.wd ((w.heap.size,.deferred (some []))::X.D)).rho=none:=af
    rw [this] at h6
    exact ⟨some c,_,i,h6⟩
  ·-- one round
   rintro x rest L0 Φ0 qx kx hqx hqx2 ⟨s,hIs,rfl,rfl⟩ wr hr hfr hsr hor
   have hl:=(hor.1 _ (List.mem_cons_self ..)).1
   simp only at hl
   have hy:=run_yield (P:=P) (args:=#[.slice qx x.length kx]) hl (by rw [hrec];rfl)
   rw [hrec] at hy
   refine ⟨_,_,assign,body,hy,roundIn_of_wpIn trivial ?_⟩
   have b6:w.heap.size+1≠w.heap.size:=by omega
   let M0:List Nat:=(w.heap.size+1)::w.heap.size::(Lk s).map Prod.fst
   let Y:Cx:=⟨wr,hr,M0,some (w.heap.size+1),[(w.heap.size+1,.loop (f .ready none)),(w.heap.size,.deferred (some []))]⟩
   let Y':Cx:=⟨wr,hr,M0,some (w.heap.size+1),[(w.heap.size+1,.loop {f .ready none with state:=.busy}),(w.heap.size,.deferred (some []))]⟩
   have hb:=a7 x rest s qx kx hqx hqx2 hIs Y Y' (fun a₁ w₁=>∃ w₂,(Instr.beginRound (w.heap.size+1)).run P w₁=.ok () w₂∧body.wpIn (Fence.wide.inRound (w.heap.size+1)) 0 P
    (roundPost P (w.heap.size+1) fun e w'=>∃ b L' Φ',e=.returned (.bool b)∧(if b then It rest L' Φ' else Itx L' Φ')∧StW (cx wr hr M0) L' Φ' w') a₁ w₂) rfl ?_
   ·refine hb _ wr ⟨?_,rfl,?_,hr,⟨hfr,hsr,Hp.le_refl hr,fun b hb=>.inl hb,hor.sub ((List.sublist_cons_self _ _).trans (List.sublist_cons_self _ _)),fun e he=>.inl ?_,KeptBut.refl _ _,fun d hd=>?_⟩⟩
    ·have:a.tmps.size=n:=hs.size
     simp [this]
    ·have:=hs.has.put (d:=p) (by rw [hs.size];simpa [X1,Nat.blt_eq] using b2) (.slice qx x.length kx)
     exact fun t v e=>by simpa [Act.put] using this t v e
    ·exact List.mem_cons_of_mem _ (List.mem_cons_of_mem _ (List.mem_map_of_mem he))
    ·have ab:=hor.2
     simp only [List.map_cons,List.nodup_cons,List.mem_cons,not_or] at ab
     simp only [Y,List.mem_cons,List.not_mem_nil,or_false] at hd
     rcases hd with rfl | rfl
     ·exact ⟨hl,(hor.1 _ (List.mem_cons_self ..)).2,fun e he hE=>ab.1.2 (by simp only at hE;rw [← hE];exact List.mem_map_of_mem he),.inr (by simp [Y,M0])⟩
     ·have h1:=hor.1 _ (List.mem_cons_of_mem _ (List.mem_cons_self ..))
      exact ⟨h1.1,h1.2,fun e he hE=>ab.2.1 (by simp only at hE;rw [← hE];exact List.mem_map_of_mem he),.inr (by simp [Y,M0])⟩
   ·-- the record turns to busy;the body;the record turns back
    intro E1 L3 Φ1 hJ a1 w2 hs1
    obtain ⟨q1,b5⟩:=hs1.world
    have aq:=(b5.res (w.heap.size+1,.loop (f .ready none)) (by simp [Y])).1
    simp only at aq
    refine ⟨_,run_beginRound aq (by rw [hrec]),?_⟩
    have av:StW Y' L3 Φ1 (w2.putObj (w.heap.size+1) (.loop {f .ready none with state:=.busy})):=by
     have:=StW.reput (X:=Y) (d:=w.heap.size+1) (o:=.loop (f .ready none)) (o':=.loop {f .ready none with state:=.busy}) (ds:=[(w.heap.size,.deferred (some []))]) oom hs1.world
     exact this
    have ad:=hJ a1 _ ⟨hs1.size,hs1.defers,hs1.has,av⟩
    refine Code.wpIn_mono (fun e a2 w3 hp=>?_) ad
    have am:∀ (j:Option Code) (l:σ),StW Y' (Lk l) (Φk l) w3 →
      (Instr.endRound (w.heap.size+1) j).run P w3=.ok (.bool j.isNone) (w3.putObj (w.heap.size+1) (.loop (f (if j.isNone then .ready else .done) j))) ∧
      StW (cx wr hr M0) ((w.heap.size+1,.loop (f (if j.isNone then .ready else .done) j))::(w.heap.size,.deferred (some []))::Lk l) (Φk l) (w3.putObj (w.heap.size+1) (.loop (f (if j.isNone then .ready else .done) j))):=fun j l z=>by
     obtain ⟨q3,a5⟩:=z
     have au:=(a5.res (w.heap.size+1,.loop {f .ready none with state:=.busy}) (by simp [Y'])).1
     simp only at au
     have i:=run_endRound (P:=P) j au
     refine ⟨by rw [hrec] at i ⊢;exact i,?_⟩
     have h4:=StW.reput (X:=Y') (d:=w.heap.size+1) (o:=.loop {f .ready none with state:=.busy}) (o':=.loop (f (if j.isNone then .ready else .done) j)) (ds:=[(w.heap.size,.deferred (some []))]) oom ⟨q3,a5⟩
     exact StW.unres oom h4
    cases e with
    | normal =>
     obtain ⟨l,r,z⟩:=hp
     obtain ⟨i,h4⟩:=am none l z
     exact ⟨_,_,i,true,_,_,rfl,⟨l,r,rfl,rfl⟩,h4⟩
    | ret =>
     obtain ⟨l,r,z⟩:=hp
     obtain ⟨i,h4⟩:=am (some .ret) l z
     exact ⟨_,_,i,false,_,_,rfl,⟨.ret,l,r,rfl,rfl⟩,h4⟩
    | exit id =>
     obtain ⟨l,r,z⟩:=hp
     obtain ⟨i,h4⟩:=am (some (.exit id)) l z
     exact ⟨_,_,i,false,_,_,rfl,⟨.exit id,l,r,rfl,rfl⟩,h4⟩
    | goto t=>exact hp.elim
    | panic c=>exact hp.elim
    | outgrown=>exact hp.elim
theorem C0r {g:Operand} {p:Nat} {ps:Array Tmp} {a f:Code} {t:FuncId} {u:List Value} {Φ0:List Pers} {α:Type} {cc:α→List Value} {xs:List (List α)}
  (l:X.rho=none) (w:ev E g=some (.func (.func t) #[] u.toArray)) (o:B5j P t u [] Φ0 cc xs) (hΦ0:B0 Φ Φ0) (m:ps=#[p]) (r:X1 n (some p)=true)
  {σ:Type} (I:List (List α)→σ→Prop) (Jx:Code→σ→Prop) (Lk:σ→Own) (Φk:σ→List Pers) (j:σ) (v:I xs j) (y:(Lk j).Sublist L) (hΦ:B0 Φ (Φk j))
  (b:∀ x rest s q k,x.length≤k→x.length≤9223372036854775807→I (x::rest) s→∀ (Y Y':Cx) (K:Act→World→Prop),Y.rho.isSome=true →
   (∀ E L Φ,J P n Y' f (RP Y' I Jx Lk Φk rest) E L Φ→JQ n Y K E L Φ)→J P n Y a (Exit.then K (fun _ _ _=>False)) (Env.put E (some p) (.slice q x.length k)) (Lk s) (sl cc q x::Φk s))
  (e:∀ d s,d ∉ X.D.map Prod.fst→I [] s→JQ n (X.wd ((d,.deferred (some []))::X.D)) (Q .normal) E (Lk s) (Φk s))
  (i:∀ d c s,d ∉ X.D.map Prod.fst→Jx c s→J P n (X.wd ((d,.deferred (some []))::X.D)) c Q E (Lk s) (Φk s)):J P n X (.rangeFunc g ps a f) Q E L Φ :=
 D8a l w o hΦ0 m r I Jx Lk Φk j v (by rw [List.append_nil];exact y) hΦ b e i
end
end Go.Fen
set_option linter.unusedVariables false
set_option linter.unusedSimpArgs false
namespace Go.Fen
open Go Go.RowKit
structure Rwc (α:Type) where
 l:List α
 b:Bool
def G5 {α:Type} (c:α→List Value) (rs:List Rwq) (xss:List (Rwc α)):Pers:=I1 c (rs.map Rwq.s) (xss.map Rwc.l)
def F8 {α:Type} (rs:List Rwq) (xss:List (Rwc α)):Prop:=rs.length=xss.length∧D5 (rs.map Rwq.s) (xss.map Rwc.l)∧rs.map Rwq.b=xss.map Rwc.b
abbrev zwq:Rwq:=⟨⟨none,0,0⟩,false⟩
abbrev zwc {α:Type}:Rwc α:=⟨[],false⟩
theorem A7d {α β:Type} (f:α→β) (xs:List α) (k:Nat) (d:α):(xs.map f).getD k (f d)=f (xs.getD k d):=by
 simp only [List.getD_eq_getElem?_getD,List.getElem?_map]
 cases xs[k]?<;>rfl
section
variable {P:Program} {n:Nat} {X:Cx} {K:Act→World→Prop} {Q:Exit→Act→World→Prop} {E E':Env} {L L':Own} {Φ Φ':List Pers} {α:Type} {c:α→List Value} {rs rs':List Rwq} {xss xss':List (Rwc α)}
theorem C7l (a:F8 rs xss) {k:Nat} (h:k<rs.length):(xss.getD k zwc).l.length≤(rs.getD k zwq).s.k∧(xss.getD k zwc).l.length≤9223372036854775807:=by
 have:=B1q a.2.1 (k:=k) (d:=(⟨none,0,0⟩:Slc)) (by simpa using h)
 rw [← A7d Rwc.l,← A7d Rwq.s];exact this
theorem q_n (a:F8 rs xss) {k:Nat} (h:k<rs.length):(rs.getD k zwq).s.n=(xss.getD k zwc).l.length:=by
 have:=B2o a.2.1 (k:=k) (d:=(⟨none,0,0⟩:Slc)) (by simpa using h)
 rw [show (⟨none,0,0⟩:Slc)=zwq.s from rfl,A7d Rwq.s,show ([]:List α)=(zwc:Rwc α).l from rfl,A7d Rwc.l] at this
 injection this
theorem E3f (a:F8 rs xss) {k:Nat} (h:k<rs.length):(Value.slice (rs.getD k zwq).s.q (rs.getD k zwq).s.n (rs.getD k zwq).s.k)=.slice (rs.getD k zwq).s.q (xss.getD k zwc).l.length (rs.getD k zwq).s.k:=by rw [q_n a h]
theorem E4q (a:F8 rs xss) (k:Nat):(rs.getD k zwq).b=(xss.getD k zwc).b:=by
 rw [← A7d Rwq.b,← A7d Rwc.b,a.2.2]
theorem D6w (a:F8 rs xss) {k:Nat} (h:k<rs.length):(Value.agg #[.slice (rs.getD k zwq).s.q (rs.getD k zwq).s.n (rs.getD k zwq).s.k,.bool (rs.getD k zwq).b])=.agg #[.slice (rs.getD k zwq).s.q (xss.getD k zwc).l.length (rs.getD k zwq).s.k,.bool (xss.getD k zwc).b]:=by rw [q_n a h,E4q a k]
theorem D5e (b:F8 rs xss) (j:Nat) (a:Φ[j]?=some (G5 c rs xss)) {k:Nat} (h:k<rs.length):R0 Φ (sl c (rs.getD k zwq).s.q (xss.getD k zwc).l):=by
 have:=B2a b.2.1 j a (k:=k) (d:=(⟨none,0,0⟩:Slc)) (by simpa using h)
 rw [← A7d Rwc.l,← A7d Rwq.s];exact this
theorem B5q:R0 Φ (G5 c [] []):=P5
theorem E3y (k:Nat) {r:Rwq} {x:Rwc α} (a:R0 Φ (G5 c rs xss)) (b:R0 Φ (sl c r.s.q x.l)):R0 Φ (G5 c (rs.set k r) (xss.set k x)):=by
 unfold G5;rw [List.map_set,List.map_set];exact D6l k a b
theorem E2u {m:Nat}:R0 Φ (G5 c (List.replicate m zwq) (List.replicate m zwc)):=by
 unfold G5;rw [List.map_replicate,List.map_replicate];exact D6u
theorem F8.none:F8 [] ([]:List (Rwc α)):=⟨rfl,D5.none,rfl⟩
theorem F8.cons {r:Rwq} {x:Rwc α} (c:r.s.n=x.l.length∧r.s.n≤r.s.k∧x.l.length≤9223372036854775807) (d:r.b=x.b) (a:F8 rs xss):F8 (r::rs) (x::xss):=⟨by simp [a.1],D5.cons c a.2.1,by simp [d,a.2.2]⟩
theorem F8.append (a:F8 rs xss) (b:F8 rs' xss'):F8 (rs++rs') (xss++xss'):=⟨by simp [a.1,b.1],by rw [List.map_append,List.map_append];exact D5.append a.2.1 b.2.1,by rw [List.map_append,List.map_append,a.2.2,b.2.2]⟩
theorem F8.set (h:F8 rs xss) (k:Nat) {r:Rwq} {x:Rwc α} (hr:r.s.n=x.l.length∧r.s.n≤r.s.k∧x.l.length≤9223372036854775807) (a:r.b=x.b):F8 (rs.set k r) (xss.set k x):=⟨by simp [h.1],by rw [List.map_set,List.map_set];exact D5.set h.2.1 k hr,by rw [List.map_set,List.map_set,h.2.2,a]⟩
theorem F8.rep (m:Nat):F8 (List.replicate m zwq) (List.replicate m (zwc:Rwc α)):=⟨by simp,by rw [List.map_replicate,List.map_replicate];exact D5.rep m,by simp⟩
theorem D5n {o:Oper} {T e b l cc:Nat} {x y:Operand} (m:ApTy P T e 2 b) (h:((P.info? e).bind (·.zero)).map (·.cells)=some #[.slice none 0 0,.bool false])
  (g:o.op=.makeSlice T x y) (i:ev E x=some (.int .i64 (l:Int))) (j:ev E y=some (.int .i64 (cc:Int))) (c:l≤cc) (r:cc * b≤140737488355328) (d:cc≤9223372036854775807) :
  Tri P n X o E L Φ {a:VR // VOk 2 (List.replicate l (zwc:Rwc α)).length a} (fun a=>.slice (va a.1.q) (List.replicate l (zwc:Rwc α)).length a.1.k) (fun a=>L++(vo K1 e a.1 (List.replicate l zwq)++[])) (fun _=>Φ):=by
 have:=C3t (P:=P) (n:=n) (X:=X) (E:=E) (L:=L) (Φ:=Φ) (f:=K1) zwq m h (fun _=>rfl) g i j c r d
 have p:(List.replicate l (zwc:Rwc α)).length=(List.replicate l zwq).length:=by simp
 rw [p]
 exact this
theorem B0h {t T sz b TT:Nat} {us:List Value} (c:Ty P T sz true) (h:E.lookup t=some (.pointer (some ⟨b,0,none⟩))) (i:Nat) (d:L[i]?=some (bx b us TT)) (a:us.length=sz) :
  B9e P n X (.cell t T) E L Φ (.agg us.toArray):=D4 c h i d (by rw [List.drop_zero,← a,List.take_length]) a
end
end Go.Fen
set_option linter.unusedVariables false
set_option linter.unusedSimpArgs false
namespace Go.Fen
open Go Go.RowKit
def E0g (n:Nat) (a:Array Oper) (T mo:Nat) (b:TypeDesc) (E:Env):Nat→Nat→Nat→List MapEntry→Option (List MapEntry)
 | 0,_,_,es=>some es
 | k+1,i,clk,es=>match B9f n a i E with
  | none=>none
  | some o=>match o.dst,o.op with
   | none,.insert T' (.tmp t) kk vv=>match Nat.beq T' T&&Nat.beq t mo,ev E kk,ev E vv with
    | true,some kv,some v=>match Instr.findNow b kv es 0 with
     | some none=>E0g n a T mo b E k (i+1) (clk+1) (es++[⟨kv,v,clk⟩])
     | _=>none
    | _,_,_=>none
   | _,_=>none
section
variable {P:Program} {n:Nat} {X:Cx} {K:Act→World→Prop} {Q:Exit→Act→World→Prop} {E:Env} {Φ:List Pers}
theorem B2q {c:Array Oper} {T y e:Nat} {p:TypeDesc} {mo b m:Nat} {es':List MapEntry} (q:MapTy P T y e p) (l:E.lookup mo=some (.map (some b))) (ix:Nat):∀ (k i a:Nat) (es:List MapEntry) (L:Own),
  L[ix]?=some (b,.map es.toArray a)→E0g n c T mo p E k i a es=some es'→JI P n X c (i+k) m K Q E (L.set ix (b,.map es'.toArray (a+k))) Φ→JI P n X c i (k+m) K Q E L Φ
 | 0,i,a,es,L,hi,h,g=>by
  simp only [E0g,Option.some.injEq] at h
  subst h
  rw [Nat.zero_add]
  have:L.set ix (b,.map es.toArray (a+0))=L:=by
   apply List.ext_getElem?
   intro j
   rw [List.getElem?_set]
   split
   ·rename_i z
    subst z
    split
    ·exact hi.symm
    ·rename_i hl;rw [List.getElem?_eq_none opx]
   ·rfl
  rw [this] at g;exact g
 | k+1,i,a,es,L,hi,h,g=>by
  unfold E0g at h
  split at h
  ·cases h
  ·rename_i o s
   split at h
   ·rename_i T' t kk vv hd d
    split at h
    ·rename_i u v f w r
     split at h
     ·rename_i x
      rw [Bool.and_eq_true] at f
      obtain rfl:=Nat.eq_of_beq_eq_true f.1
      obtain rfl:=Nat.eq_of_beq_eq_true f.2
      rw [Nat.add_right_comm]
      refine it s (E7 q (.inl d) l w r ix hi (by simpa using x) rfl) fun _=>?_
      rw [hd]
      refine B2q q l ix k (i+1) (a+1) (es++[⟨u,v,a⟩]) _ ?_ h ?_
      ·rw [List.getElem?_set_self (by have:=(List.getElem?_eq_some_iff.1 hi).1;exact this)];simp
      ·rw [List.set_set,show i+1+k=i+(k+1) by omega,show a+1+k=a+(k+1) by omega];exact g
     ·cases h
    ·cases h
   ·cases h
end
end Go.Fen
set_option linter.unusedVariables false
set_option linter.unusedSimpArgs false
namespace Go.Fen
open Go Go.RowKit Go.ChangeShapes
variable {P:Program}
end Go.Fen
set_option linter.unusedVariables false
set_option linter.unusedSimpArgs false
namespace Go.Fen
open Go Go.RowKit
section
variable {P:Program} {n:Nat} {X:Cx} {K:Act→World→Prop} {Q:Exit→Act→World→Prop} {E E':Env} {L L':Own} {Φ Φ':List Pers}
theorem D5.drop {α:Type} {rs:List Slc} {xss:List (List α)} (h:D5 rs xss) (k:Nat):D5 (rs.drop k) (xss.drop k):=⟨by simp [h.1],fun i r xs hr a=>h.2 (k+i) r xs (by simpa using hr) (by simpa using a)⟩
theorem D5.take {α:Type} {rs:List Slc} {xss:List (List α)} (h:D5 rs xss) (k:Nat):D5 (rs.take k) (xss.take k):=⟨by simp [h.1],fun i r xs hr a=>by
 rw [List.getElem?_take] at hr a
 split at hr
 ·rename_i b;rw [if_pos b] at a;exact h.2 i r xs hr a
 ·cases hr⟩
theorem F8.drop {α:Type} {rs:List Rwq} {xss:List (Rwc α)} (h:F8 rs xss) (k:Nat):F8 (rs.drop k) (xss.drop k):=⟨by simp [h.1],by rw [List.map_drop,List.map_drop];exact h.2.1.drop k,by rw [List.map_drop,List.map_drop,h.2.2]⟩
theorem F8.take {α:Type} {rs:List Rwq} {xss:List (Rwc α)} (h:F8 rs xss) (k:Nat):F8 (rs.take k) (xss.take k):=⟨by simp [h.1],by rw [List.map_take,List.map_take];exact h.2.1.take k,by rw [List.map_take,List.map_take,h.2.2]⟩
theorem A3s {L:Own} {o:Oper} {T k e:Nat} {h:TypeDesc} {m g:Operand} {b:Nat} {f z:Value} {es:Array MapEntry} {d:Nat} (c:MapTy P T k e h) (l:o.op=.lookup T m g false) (x:ev E m=some (.map (some b))) (p:ev E g=some f)
  (i:Nat) (v:L[i]?=some (b,.map es d)) (q:Instr.findNow h f es.toList 0=some none) (n:(P.info? e).bind (·.zero)=some z):G7 P X o E L Φ z:=.of_run fun ac w j s=>by
 have y:=B9v s v
 obtain ⟨r,t,u⟩:=Option.bind_eq_some_iff.1 n
 have a:(zeroValue e).run P w=.ok z w:=by simp [zeroValue,A7m t,u]
 simp [execOp,l,C4 j x,C4 j p,Instr.lookup,run_underlying c.ty,D2h y,A1t c,A3i c q,a]
theorem Has.val {a:Act} (c:Has a E) {t:Nat} {v:Value} (d:E.lookup t=some v):Has a ((t,v)::E):=by
 intro b f e
 by_cases he:b=t
 ·subst he;simp [List.lookup] at e;subst e;exact c _ _ d
 ·have:(b == t)=false:=by simpa using he
  simp only [List.lookup,this] at e
  exact c _ _ e
end
end Go.Fen
set_option linter.unusedVariables false
set_option linter.unusedSimpArgs false
namespace Go.Fen
open Go Go.RowKit
section
variable {P:Program} {n:Nat} {X:Cx} {K:Act→World→Prop} {Q:Exit→Act→World→Prop} {E E':Env} {L L':Own} {Φ Φ':List Pers}
theorem f1h {q:Pers}:R0 (q::Φ) q:=B1 0 rfl
theorem f1t {q r:Pers} (h:R0 Φ q):R0 (r::Φ) q:=fun p a=>h p fun x b=>a x (List.mem_cons_of_mem _ b)
theorem sbm {α:Type} {e:α} {A B:List α} (h:List.Sublist A B):List.Sublist (e::A) (e::B):=h.cons_cons e
theorem sba {α:Type} {v A B:List α} (h:List.Sublist A B):List.Sublist (v++A) (v++B):=List.Sublist.append (List.Sublist.refl v) h
theorem sbs {α:Type} {e:α} {A B:List α} (h:List.Sublist A B):List.Sublist A (e::B):=h.cons e
theorem sbv {α:Type} {v A B:List α} (h:List.Sublist A B):List.Sublist A (v++B):=h.trans (List.sublist_append_right v B)
def D5h (e:Nat×Obj) (L L':Own):Prop:=L.Perm (e::L')
theorem re0 {e:Nat×Obj}:D5h e (e::L) L:=List.Perm.refl _
theorem re1 {e x:Nat×Obj} (h:D5h e L L'):D5h e (x::L) (x::L'):=(List.Perm.cons x h).trans (List.Perm.swap e x L')
theorem re2 {e:Nat×Obj} {v:Own} (h:D5h e L L'):D5h e (v++L) (v++L'):=(List.Perm.append_left v h).trans List.perm_middle
def D4y (v L L':Own):Prop:=L.Perm (v++L')
theorem rv0 {v:Own}:D4y v (v++L) L:=List.Perm.refl _
theorem rv1 {x:Nat×Obj} {v:Own} (h:D4y v L L'):D4y v (x::L) (x::L'):=(List.Perm.cons x h).trans List.perm_middle.symm
theorem rv2 {v u:Own} (h:D4y v L L'):D4y v (u++L) (u++L'):=(List.Perm.append_left u h).trans (C3n u v L')
def PkP (L L0 L2:Own):Prop:=L.Perm (L0++L2)
theorem pk0:PkP L [] L:=List.Perm.refl _
theorem pkc {e:Nat×Obj} {l L2:Own} (h:D5h e L L') (k:PkP L' l L2):PkP L (e::l) L2:=h.trans (List.Perm.cons e k)
theorem pkv {v l L2:Own} (h:D4y v L L') (k:PkP L' l L2):PkP L (v++l) L2:=by
 unfold PkP;rw [List.append_assoc];exact h.trans (List.Perm.append_left v k)
def SrP (M L:Own):Prop:=M.Perm L
def InP (v L L':Own):Prop:=(v++L).Perm L'
theorem sr0:SrP [] []:=List.Perm.refl _
theorem sr1 {e:Nat×Obj} {M:Own} (h:SrP M L):SrP (e::M) (e::L):=List.Perm.cons e h
theorem sr2 {v M:Own} (h:SrP M L) (k:InP v L L'):SrP (v++M) L':=(List.Perm.append_left v h).trans k
theorem sr3 {M:Own}:SrP M M:=List.Perm.refl _
theorem in1 {v:Own} {e:Nat×Obj} (h:InP v L L'):InP v (e::L) (e::L'):=List.perm_middle.trans (List.Perm.cons e h)
theorem in0 {v:Own}:InP v L (v++L):=List.Perm.refl _
theorem sr4 {M M':Own} (e:M=M') (h:SrP M' L):SrP M L:=e▸h
def D0z (n:Nat) (a:Array Oper) (i:Nat) (E:Env):Option (FuncId×List Value×Option Nat) :=
 match B9f n a i E with
 | some o=>match o.op with
  | .call c=>match c.callee with
   | .value fv=>match ev E fv,c.args.toList.mapM (ev E) with
    | some (.func (.func k) first cap),some vs=>some (k,(first++vs.toArray++cap).toList,o.dst)
    | _,_=>none
   | _=>none
  | _=>none
 | none=>none
theorem B8g {a:Array Oper} {i:Nat} {k:FuncId} {args:List Value} {d:Option Nat} (h:D0z n a i E=some (k,args,d)) :
  ∃ o c b first cap e,B9f n a i E=some o∧o.op=.call c∧c.callee=.value b∧ev E b=some (.func (.func k) first cap)∧c.args.toList.mapM (ev E)=some e∧(first++e.toArray++cap).toList=args∧o.dst=d:=by
 unfold D0z at h
 split at h
 ·rename_i o f
  split at h
  ·rename_i c g
   split at h
   ·rename_i b j
    split at h
    ·rename_i p first cap e l m
     simp only [Option.some.injEq,Prod.mk.injEq] at h
     obtain ⟨rfl,rfl,rfl⟩:=h
     exact ⟨o,c,b,first,cap,e,f,g,j,l,m,rfl,rfl⟩
    ·cases h
   ·cases h
  ·cases h
 ·cases h
theorem zv {a:Array Oper} {i m:Nat} {k:FuncId} {args:List Value} {d:Option Nat} {Φ0:List Pers} {v:Value} (g:D0z n a i E=some (k,args,d)) (b:G3 P k args Φ0 v)
  (h:JI P n X a (i+1) m K Q (Env.put E d v) L Φ) (hΦ:B0 Φ Φ0:=by first|exact B0.nil|exact B0.refl|(repeat' first|with_reducible exact B0.nil|with_reducible refine B0.con1 ?_ ?_|with_reducible exact f1h|with_reducible refine f1t ?_|exact B0g|exact P5|exact B5q);done|(repeat' first|exact B0.nil|refine B0.con1 ?_ ?_|exact f1h|refine f1t ?_|exact B0g|exact P5|exact B5q)):JI P n X a i (m+1) K Q E L Φ:=by
 obtain ⟨o,c,r,first,cap,s,e,j,q,p,f,l,rfl⟩:=B8g g
 exact ixc e (N3 b j q p f l hΦ) h
theorem zvd {a:Array Oper} {i m:Nat} {k:FuncId} {args:List Value} {d:Option Nat} {Φ0:List Pers} {v:Value} (g:D0z n a i E=some (k,args,d)) (b:G3 P k args Φ0 v)
  (h:JD P n X a (i+1) m K (Env.put E d v) L Φ) (hΦ:B0 Φ Φ0:=by first|exact B0.nil|exact B0.refl|(repeat' first|with_reducible exact B0.nil|with_reducible refine B0.con1 ?_ ?_|with_reducible exact f1h|with_reducible refine f1t ?_|exact B0g|exact P5|exact B5q);done|(repeat' first|exact B0.nil|refine B0.con1 ?_ ?_|exact f1h|refine f1t ?_|exact B0g|exact P5|exact B5q)):JD P n X a i (m+1) K E L Φ:=by
 obtain ⟨o,c,r,first,cap,s,e,j,q,p,f,l,rfl⟩:=B8g g
 exact ddc e (N3 b j q p f l hΦ) h
theorem zc {a:Array Oper} {i m:Nat} {k:FuncId} {args:List Value} {d:Option Nat} {L0 L2:Own} {Φ0:List Pers} {α:Type} {val:α→Value} {L1:α→Own} {Φ1:α→List Pers} {L3:α→Own} {Φ3:α→List Pers}
  (j:D0z n a i E=some (k,args,d)) (b:Con P k args L0 Φ0 α val L1 Φ1) (h:∀ x,JI P n X a (i+1) m K Q (Env.put E d (val x)) (L3 x) (Φ3 x))
  (l:PkP L L0 L2:=by repeat' first|with_reducible exact pk0|with_reducible apply pkc|with_reducible apply pkv|with_reducible exact re0|with_reducible exact rv0|with_reducible apply re1|with_reducible apply re2|with_reducible apply rv1|with_reducible apply rv2)
  (e:∀ x,SrP (L1 x++L2) (L3 x):=by
   intro _
   refine sr4 (by first|(simp only [List.cons_append,List.nil_append,List.append_assoc];exact rfl)|exact rfl) ?_
   repeat' first|with_reducible exact sr0|with_reducible apply sr1|with_reducible apply sr2|with_reducible apply in1|with_reducible exact in0|exact sr3)
  (hΦ:B0 Φ Φ0:=by first|exact B0.nil|exact B0.refl|(repeat' first|with_reducible exact B0.nil|with_reducible refine B0.con1 ?_ ?_|with_reducible exact f1h|with_reducible refine f1t ?_|exact B0g|exact P5|exact B5q);done|(repeat' first|exact B0.nil|refine B0.con1 ?_ ?_|exact f1h|refine f1t ?_|exact B0g|exact P5|exact B5q))
  (hΦ3:∀ x,Φ1 x++Φ=Φ3 x:=by intro _;first|exact List.nil_append _|(simp only [List.nil_append,List.cons_append];exact rfl)|exact rfl):JI P n X a i (m+1) K Q E L Φ:=by
 obtain ⟨o,c,t,first,cap,u,f,p,s,r,g,q,rfl⟩:=B8g j
 obtain rfl:(fun x=>Φ1 x++Φ)=Φ3:=funext hΦ3
 exact it f (V8 b p s r g q hΦ l L3 e) h
theorem om_ {p:Prop} (h:p:=by first|omega|(simp only [List.length_take,List.length_drop,List.length_append,List.length_cons,List.length_nil,List.length_set,List.length_map,List.length_replicate];omega)|decide|assumption|(dsimp only;omega)):p:=h
abbrev un {α β ρ:Type} (f:α→β→ρ) (x:α×β):ρ:=match x with | (a,b)=>f a b
theorem sb_ {A B:Own} (h:List.Sublist A B:=by
   first
    | exact List.nil_sublist _
    | exact List.Sublist.refl _
    | (repeat' first | with_reducible exact List.nil_sublist _ | with_reducible exact List.Sublist.refl _ | with_reducible refine sbm ?_ | with_reducible refine sba ?_ | with_reducible refine sbs ?_ | with_reducible refine sbv ?_);done
    | (repeat' first | exact List.nil_sublist _ | exact List.Sublist.refl _ | refine sbm ?_ | refine sba ?_ | refine sbs ?_ | refine sbv ?_);done
    | (simp only [List.length_set];repeat' first | exact List.nil_sublist _ | exact List.Sublist.refl _ | refine sbm ?_ | refine sba ?_ | refine sbs ?_ | refine sbv ?_);done):List.Sublist A B:=h
theorem fo_ {A B:List Pers} (h:B0 A B:=by first|exact B0.nil|exact B0.refl|(repeat' first|with_reducible exact B0.nil|with_reducible refine B0.con1 ?_ ?_|with_reducible exact f1h|with_reducible refine f1t ?_|exact B0g|exact P5|exact B5q);done|(repeat' first|exact B0.nil|refine B0.con1 ?_ ?_|exact f1h|refine f1t ?_|exact B0g|exact P5|exact B5q)):B0 A B:=h
def E1o:Nat→List Value→Env
 | _,[]=>[]
 | i,v::l=>(i,v)::E1o (i+1) l
theorem C3v:∀ (xs:List Value) (k j:Nat),((List.range' k xs.length).zip xs).lookup (k+j)=xs[j]?
 | [],k,j=>rfl
 | v::xs,k,j=>by
  simp only [List.length_cons,List.range'_succ,List.zip_cons_cons,List.lookup_cons]
  cases j with
  | zero=>simp
  | succ j =>
   have e:(k+(j+1) == k)=false:=by simp
   rw [e,show k+(j+1)=(k+1)+j by omega]
   simpa using C3v xs (k+1) j
theorem C2d {A:Env}:∀ (l:List Value) (k:Nat),(∀ j,j<l.length→A.lookup (k+j)=l[j]?)→S5 A (E1o k l)
 | [],_,_=>trivial
 | v::l,k,h=>⟨by simpa using h 0 oom,C2d l (k+1) fun j a=>by
   have:=h (j+1) (by simp;omega)
   rw [show k+(j+1)=k+1+j by omega] at this
   simpa using this⟩
theorem zce {f:FuncId} {a:Func} {c:Code} {args:List Value} {L0:Own} {Φ0:List Pers} {α:Type} {val:α→Value} {L1:α→Own} {Φ1:α→List Pers} (e:P.funcs[f]?=some a)
  (h:∀ X:Cx,X.M=L0.map Prod.fst→X.rho=none→X.D=[]→J P n X c (C8l P X a α val L1 Φ1) (E1o 0 args) L0 Φ0) (i:a.body=some c:=by rfl) (g:a.ntmps=n:=by rfl)
  (b : (a.name == "runtime.NumGoroutine") = false := by kernel_rfl) (d : Nat.ble args.length n = true := by rfl) : Con P f args L0 Φ0 α val L1 Φ1 :=
 D0p e i b g d _ (C2d args 0 fun j k=>by rw [List.range_eq_range',C3v]) h
theorem pp0 {a:Array Oper} {i:Nat} {m:Nat} (k:Nat) (h:A2k P n a k i E []=some []) (g:JI P n X a (i+k) m K Q ([]++E) L Φ):JI P n X a i (m+k) K Q E L Φ:=Nat.add_comm k m▸ip k m _ h g
theorem pp1 {a:Array Oper} {i:Nat} {m:Nat} (k b:Nat) {c:Value} (h:A2k P n a k i E [(b,c)]=some [(b,c)]) (g:JI P n X a (i+k) m K Q ([(b,c)]++E) L Φ):JI P n X a i (m+k) K Q E L Φ:=Nat.add_comm k m▸ip k m _ h g
theorem pd1 {a:Array Oper} {i:Nat} {m:Nat} (k b:Nat) {c:Value} (h:A2k P n a k i E [(b,c)]=some [(b,c)]) (g:JD P n X a (i+k) m K ([(b,c)]++E) L Φ):JD P n X a i (m+k) K E L Φ:=Nat.add_comm k m▸dp k m _ h g
theorem pl1 {a:Array Oper} {i:Nat} {m:Nat} (k:Nat) (c:List Nat) (d:Nat) {b:Value} (h:exL P n a k i c [] E L [(d,b)]=some ([(d,b)],L,exS P n a k i c [] E L)) (g:JI P n X a (i+k) m K Q ([(d,b)]++E) L Φ):JI P n X a i (m+k) K Q E L Φ:=Nat.add_comm k m▸zrl k m c _ g h
theorem pg1 {a:Array Oper} {i:Nat} {m:Nat} (k:Nat) (c:List Nat) (d:Nat) {b:Value} (h:exL P n a k i c [] E L [(d,b)]=some ([(d,b)],L,exS P n a k i c [] E L)) (g:JD P n X a (i+k) m K ([(d,b)]++E) L Φ) (e:C0o a k i=true:=by kernel_rfl):JD P n X a i (m+k) K E L Φ:=Nat.add_comm k m▸zdg k m c _ g h e
theorem pp2 {a:Array Oper} {i:Nat} {m:Nat} (k e d:Nat) {b c:Value} (h:A2k P n a k i E [(e,b),(d,c)]=some [(e,b),(d,c)]) (g:JI P n X a (i+k) m K Q ([(e,b),(d,c)]++E) L Φ):JI P n X a i (m+k) K Q E L Φ:=Nat.add_comm k m▸ip k m _ h g
theorem pd2 {a:Array Oper} {i:Nat} {m:Nat} (k e d:Nat) {b c:Value} (h:A2k P n a k i E [(e,b),(d,c)]=some [(e,b),(d,c)]) (g:JD P n X a (i+k) m K ([(e,b),(d,c)]++E) L Φ):JD P n X a i (m+k) K E L Φ:=Nat.add_comm k m▸dp k m _ h g
theorem pl2 {a:Array Oper} {i:Nat} {m:Nat} (k:Nat) (c:List Nat) (f e:Nat) {b d:Value} (h:exL P n a k i c [] E L [(f,b),(e,d)]=some ([(f,b),(e,d)],L,exS P n a k i c [] E L)) (g:JI P n X a (i+k) m K Q ([(f,b),(e,d)]++E) L Φ):JI P n X a i (m+k) K Q E L Φ:=Nat.add_comm k m▸zrl k m c _ g h
theorem pg2 {a:Array Oper} {i:Nat} {m:Nat} (k:Nat) (c:List Nat) (f e:Nat) {b d:Value} (h:exL P n a k i c [] E L [(f,b),(e,d)]=some ([(f,b),(e,d)],L,exS P n a k i c [] E L)) (g:JD P n X a (i+k) m K ([(f,b),(e,d)]++E) L Φ) (j:C0o a k i=true:=by kernel_rfl):JD P n X a i (m+k) K E L Φ:=Nat.add_comm k m▸zdg k m c _ g h j
theorem pp3 {a:Array Oper} {i:Nat} {m:Nat} (k f e j:Nat) {b d c:Value} (h:A2k P n a k i E [(f,b),(e,d),(j,c)]=some [(f,b),(e,d),(j,c)]) (g:JI P n X a (i+k) m K Q ([(f,b),(e,d),(j,c)]++E) L Φ):JI P n X a i (m+k) K Q E L Φ:=Nat.add_comm k m▸ip k m _ h g
theorem pl3 {a:Array Oper} {i:Nat} {m:Nat} (k:Nat) (d:List Nat) (j f l:Nat) {b e c:Value} (h:exL P n a k i d [] E L [(j,b),(f,e),(l,c)]=some ([(j,b),(f,e),(l,c)],L,exS P n a k i d [] E L)) (g:JI P n X a (i+k) m K Q ([(j,b),(f,e),(l,c)]++E) L Φ):JI P n X a i (m+k) K Q E L Φ:=Nat.add_comm k m▸zrl k m d _ g h
theorem pp4 {a:Array Oper} {i:Nat} {m:Nat} (k l j o e:Nat) {b f c d:Value} (h:A2k P n a k i E [(l,b),(j,f),(o,c),(e,d)]=some [(l,b),(j,f),(o,c),(e,d)]) (g:JI P n X a (i+k) m K Q ([(l,b),(j,f),(o,c),(e,d)]++E) L Φ):JI P n X a i (m+k) K Q E L Φ:=Nat.add_comm k m▸ip k m _ h g
theorem pl4 {a:Array Oper} {i:Nat} {m:Nat} (k:Nat) (d:List Nat) (o l p f:Nat) {b j c e:Value} (h:exL P n a k i d [] E L [(o,b),(l,j),(p,c),(f,e)]=some ([(o,b),(l,j),(p,c),(f,e)],L,exS P n a k i d [] E L)) (g:JI P n X a (i+k) m K Q ([(o,b),(l,j),(p,c),(f,e)]++E) L Φ):JI P n X a i (m+k) K Q E L Φ:=Nat.add_comm k m▸zrl k m d _ g h
def pv (q:Option Nat):Value:=match q with | none=>.pointer none | some b=>pt b 0
theorem B3t {b:Array Oper} {i m:Nat} {v:Value} (t:Nat) (d:E.lookup t=some v) (h:JI P n X b i m K Q ((t,v)::E) L Φ):JI P n X b i m K Q E L Φ:=fun a w c=>h a w ⟨c.size,c.defers,c.has.val d,c.world⟩
theorem sR_ {id:Nat} {c:Array Oper} {y:Code} {m:Nat} (d:c.size=m) (h:JI P n X c 0 m (fun a w=>y.wpIn (FW X.rho) 0 P Q a w) (Exit.then (fun a w=>y.wpIn (FW X.rho) 0 P Q a w) Q) E L Φ):J P n X (.seq (.region id c false) y) Q E L Φ:=sr m d h
class BP (b:Bool) (p:outParam Prop):Prop where
 iff:b=true ↔ p
instance (priority:=low) (b:Bool):BP b (b=true):=⟨Iff.rfl⟩
instance (p:Prop) [Decidable p]:BP (decide p) p:=⟨decide_eq_true_iff⟩
instance (a b:Bool) (p q:Prop) [BP a p] [BP b q]:BP (a&&b) (p∧q):=⟨by rw [Bool.and_eq_true,BP.iff (b:=a),BP.iff (b:=b)]⟩
instance (a b:Bool) (p q:Prop) [BP a p] [BP b q]:BP (a||b) (p∨q):=⟨by rw [Bool.or_eq_true,BP.iff (b:=a),BP.iff (b:=b)]⟩
instance (a:Bool) (p:Prop) [BP a p]:BP (!a) (¬ p):=⟨by rw [Bool.not_eq_true',← BP.iff (b:=a),Bool.not_eq_true]⟩
class BR (c:Bool) (p:Prop) (r:outParam Prop):Prop where
 iff:(c=true→(r ↔ p))∧(c=false→(r ↔ ¬ p))
theorem ozw {p:Prop} (h:p:=by decide):p:=h
instance (p:Prop):BR true p p:=⟨⟨fun _=>Iff.rfl,fun h=>absurd h ozw⟩⟩
instance (p:Prop):BR false p (¬ p):=⟨⟨fun h=>absurd h ozw,fun _=>Iff.rfl⟩⟩
theorem bq_ {b c:Bool} {p r:Prop} (h:b=c) [BP b p] [BR c p r]:r:=by
 subst h
 cases hb:b with
 | true=>exact ((BR.iff (c:=b) (p:=p) (r:=r)).1 hb).2 ((BP.iff (b:=b)).1 hb)
 | false=>exact ((BR.iff (c:=b) (p:=p) (r:=r)).2 hb).2 fun a=>by rw [(BP.iff (b:=b)).2 a] at hb;cases hb
end
end Go.Fen
set_option linter.unusedVariables false
namespace Go.Fen
open Go Go.RowKit
section
variable {Φ:List Pers} {α:Type} {c:α→List Value} {rs ys:List Rwq} {xss yss:List (Rwc α)}
theorem F8.copy (h:F8 rs xss) (k:F8 ys yss) (l:Nat):F8 (rs.take l++(ys.take (rs.length - l)++rs.drop (l+min ys.length (rs.length - l)))) (xss.take l++(yss.take (xss.length - l)++xss.drop (l+min yss.length (xss.length - l)))):=by
 rw [h.1,k.1];exact F8.append (F8.take h l) (F8.append (F8.take k _) (F8.drop h _))
end
end Go.Fen
set_option linter.unusedVariables false
set_option linter.unusedSimpArgs false
namespace Go.Proofs.YtioaekgoceinkaaGreatDoor
open Go Go.Fen
theorem C3c (w:World) :
  CallsD Tryz.prog 188 #[] (.panicking [{v:=Y8,recovered:=false}]) w fun e u' w' =>
   e=.returned (.tuple #[])∧u'=.panicking [{v:=Y8,recovered:=true}]∧w'=w:=by
 refine callsD_of_wpS Tryz.func188 rfl fun b cs a=>?_
 apply wpS_seq
 apply wpS_region
 simp [wpOpsS,go_sem,recoverD,a,Tryz.ntmps188,Exit.thenS]
 apply wpS_seq
 apply wpS_region
 simp [wpOpsS,go_sem,recoverD,a,Tryz.ntmps188,Exit.thenS]
 refine wpS_cond (t:=true) (by simp [Act.eval,Array.replicate]) ?_
 simp only [if_true]
 apply wpS_region
 simp [wpOpsS,go_sem,bodyPostS,results,Tryz.results188,Instr.typeAssert]
theorem D1w (w:World) :
  CallsD Tryz.prog 188 #[] .returning w fun e u' w'=>e=.returned (.tuple #[])∧u'=.returning∧w'=w:=by
 refine callsD_of_wpS Tryz.func188 rfl fun b cs a=>?_
 apply wpS_seq
 apply wpS_region
 simp [wpOpsS,go_sem,recoverD,a,Tryz.ntmps188,Exit.thenS]
 apply wpS_seq
 apply wpS_region
 simp [wpOpsS,go_sem,recoverD,a,Tryz.ntmps188,Exit.thenS]
 refine wpS_cond (t:=false) (by simp [Act.eval,Array.replicate]) ?_
 simp only [Bool.false_eq_true,if_false]
 refine wpS_of_wp (wp_skip ?_)
 cases b
 simp_all [bodyPostS,results,Tryz.results188]
def A8i (R:Option (List UInt8)):List UInt8×Bool:=match R with | some s=>(s,true) | none=>([],false)
theorem D2j {k:FuncId} {cap:List Value} {L0:Fen.Own} {Φ0:List Pers} (R:Option (List UInt8)) (h:B8x Tryz.prog k cap L0 Φ0 Y8 R (fun s=>.string (bs s))) :
  Con Tryz.prog 119 [.func (.func k) #[] cap.toArray] L0 Φ0 Unit (fun _=>.tuple #[.string (bs (A8i R).1),.bool (A8i R).2]) (fun _=>[]) (fun _=>[]):=by
 refine ⟨⟨by kernel_rfl⟩,fun w b l m j=>?_⟩
 have i:=h.2 w b l m j
 have o:=h.1
 have n:∀ w:World,(callFunc k cap.toArray).run Tryz.prog w=.ok (.enter k cap.toArray) w:=fun w=>A0p o _ w
 cases R with
 | none =>
  have a:Calls Tryz.prog k cap.toArray w fun e w'=>e=.panicked [{v:=Y8,recovered:=false}]∧StW (cx w b (L0.map Prod.fst)) [] [] w':=i.mono fun e w' ⟨d,g⟩=>⟨g,d⟩
  go_enter_defers Tryz.func119,Tryz.ntmps119
  go_wp2_with (refine a.mono ?_;rintro e w' ⟨rfl,hw⟩)
  refine leaves_cons (f:=188) (args:=#[]) oom (by simp [go_sem]) ?_
  refine (C3c _).mono ?_
  rintro e u' c ⟨rfl,rfl,rfl⟩
  simpa [Leaves,settle,results,Tryz.results119,go_sem,A8i] using hw
 | some s =>
  have a:Calls Tryz.prog k cap.toArray w fun e w'=>e=.returned (.string (bs s))∧StW (cx w b (L0.map Prod.fst)) [] [] w':=i.mono fun e w' ⟨d,g⟩=>⟨g,d⟩
  go_enter_defers Tryz.func119,Tryz.ntmps119
  go_wp2_with (refine a.mono ?_;rintro e w' ⟨rfl,hw⟩)
  refine leaves_cons (f:=188) (args:=#[]) oom (by simp [go_sem]) ?_
  refine (D1w _).mono ?_
  rintro e u' c ⟨rfl,rfl,rfl⟩
  simpa [Leaves,settle,results,Tryz.results119,go_sem,A8i] using hw
end Go.Proofs.YtioaekgoceinkaaGreatDoor
set_option linter.unusedVariables false
set_option linter.unusedSimpArgs false
namespace Go.Proofs.YtioaekgoceinkaaGreatDoor
open Go Go.Fen Go.RowKit
set_option maxHeartbeats 1000000 in
set_option maxRecDepth 100000 in
theorem C5f (b:Nat) (w:World) (c:w.cell? ⟨b,0,none⟩=some (.pointer (some ⟨b,0,none⟩))) :
  Calls Tryz.prog 239 #[.pointer (some ⟨b,0,none⟩)] w fun e w'=>e=.returned (.tuple #[])∧w'=w:=by
 obtain ⟨j,a,_⟩:=Option.map_eq_some_iff.1 (show (Tryz.prog.info? 215).map (·.size)=some 2 by kernel_rfl)
 go_enter Tryz.func239,Tryz.ntmps239
 go_wp2
 rw [Lib.run_neq_ptr_same w _ Tryz.underlying213 a]
 go_wp2
 go_end0
 exact ⟨rfl,rfl⟩
theorem okl {p:Prop} (h:p:=by kernel_rfl):p:=h
set_option maxHeartbeats 1000000 in
set_option maxRecDepth 100000 in
theorem C2q (b:Nat) (w:World) (g:w.cell? ⟨b,0,none⟩=some (.pointer none)) (a:w.shape? b=some (215,2)) (f:w.frozen? ⟨b,0,none⟩=false) :
  Calls Tryz.prog 239 #[.pointer (some ⟨b,0,none⟩)] w fun e w'=>e=.returned (.tuple #[])∧w'=w.setCell ⟨b,0,none⟩ (.pointer (some ⟨b,0,none⟩)):=by
 obtain ⟨j,d,c⟩:=Option.map_eq_some_iff.1 (show (Tryz.prog.info? 215).map (·.size)=some 2 by kernel_rfl)
 go_enter Tryz.func239,Tryz.ntmps239
 go_wp2
 rw [Lib.run_to_unsafe w ⟨b,0,none⟩ Tryz.underlying213 Tryz.underlying324 d (by rw [c];decide) a (Nat.zero_lt_succ 1)]
 simp only [Result.andThen]
 rw [Oper.upon_value]
 go_wp2
 rw [run_callFunc_extern Tryz.func279 okl okl okl (e:=Extern.AbiNoEscape.same) okl]
 rw [Lib.run_noEscape]
 simp only [Result.andThen]
 rw [Oper.upon_value]
 go_wp2
 rw [Lib.run_from_unsafe w ⟨b,0,none⟩ Tryz.underlying324 Tryz.underlying213 d a okl]
 simp only [Result.andThen]
 rw [Oper.upon_value]
 go_wp2
 go_end0
 exact ⟨rfl,rfl⟩
theorem A7u {M:List Nat} (w:World):KeptBut M w w.drew:=⟨rfl,rfl,rfl,Nat.le_refl _,fun _ _ _=>rfl⟩
theorem C5m {M:List Nat} {a w:World} {g:Nat} (h:KeptBut M a w) (c:g ∈ M) (n:Nat):KeptBut M a (w.freeze ⟨g,0,none⟩ n):=by
 refine h.trans ?_
 unfold World.freeze
 split
 ·exact KeptBut.refl M w
 ·exact ⟨rfl,rfl,rfl,by simp,fun k d b=>by
   simp only [Array.getElem?_modify]
   rw [if_neg (by rintro rfl;exact b c)]⟩
set_option maxHeartbeats 1000000 in
set_option maxRecDepth 100000 in
theorem D0v (b g cap:Nat) (p:Value) (cur:Array Value) (l:List UInt8) (w:World) (i:l≠[]) (h:w.heap[b]?=some (.cells #[p,.slice (some ⟨g,0,none⟩) l.length cap] 215 (0,0))) (k:w.heap[g]?=some (.cells cur 5 (0,0)))
  (m:l.length≤cap) (f:cap≤maxLen) (q:cur.size=cap) (a:∀ (j:Nat) (x:UInt8),l[j]?=some x→cur[j]?=some (Value.int .u8 (x.toNat:Int))) :
  Calls Tryz.prog 164 #[.pointer (some ⟨b,0,none⟩)] w fun e w'=>e=.returned (.string ⟨l.toArray⟩)∧KeptBut [b,g] w w':=by
 have r:l.length≠0:=by simpa using i
 have t:w.drew.cell? ⟨b,1,none⟩=some (.slice (some ⟨g,0,none⟩) l.length cap):=by
  have:w.drew.heap[b]?=some (.cells #[p,.slice (some ⟨g,0,none⟩) l.length cap] 215 (0,0)):=h
  rw [Lib.cell_of_heap this];rfl
 have s:(Builtin.unsafeSliceData_ #[67] 282 #[.slice (some ⟨g,0,none⟩) l.length cap]).run Tryz.prog w.drew=.ok (.pointer (some ⟨g,0,none⟩)) w.drew :=
  Lib.run_unsafeSliceData_row _ _ _ _ _ _ opx
 have o:(Builtin.unsafeString_ #[282,3] 9 #[.pointer (some ⟨g,0,none⟩),.int .i64 l.length]).run Tryz.prog w.drew=.ok (.string ⟨l.toArray⟩) (w.drew.freeze ⟨g,0,none⟩ l.length):=by
  refine Lib.run_unsafeString_row w.drew 282 3 9 5 Tryz.underlying282 okl g cur.size (by have c:w.drew.heap[g]?=some (.cells cur 5 (0,0)):=k;simp [World.shape?,c]) l i opx (by unfold maxLen at f;omega) ?_
  intro j x n
  have c:w.drew.heap[g]?=some (.cells cur 5 (0,0)):=k
  rw [Addr.add_lit,Nat.zero_add,Lib.cell_of_heap c]
  exact a j x n
 have d:Tryz.prog.follows .mixedOrders=true:=by kernel_rfl
 go_enter Tryz.func164,Tryz.ntmps164
 go_wp2
 go_region_o
 all_goals (go_wp2;go_ret;exact ⟨rfl,C5m (A7u w) oom _⟩)
set_option maxHeartbeats 2000000 in
set_option maxRecDepth 100000 in
theorem D2m (b:Nat) (p:Value) (w:World) (c:w.heap[b]?=some (.cells #[p,.slice none 0 0] 215 (0,0))) :
  Calls Tryz.prog 164 #[.pointer (some ⟨b,0,none⟩)] w fun e w'=>e=.returned (.string ⟨#[]⟩)∧KeptBut [b] w w':=by
 have f:=fun (W:World) (q:Option Addr)=>Lib.run_unsafeString_none (P:=Tryz.prog) W 282 3 9 q
 have g:w.drew.cell? ⟨b,1,none⟩=some (.slice none 0 0):=by
  have:w.drew.heap[b]?=some (.cells #[p,.slice none 0 0] 215 (0,0)):=c
  rw [Lib.cell_of_heap this];rfl
 have d:(Builtin.unsafeSliceData_ #[67] 282 #[.slice none 0 0]).run Tryz.prog w.drew=.ok (.pointer none) w.drew:=rfl
 have a:Tryz.prog.follows .mixedOrders=true:=by kernel_rfl
 go_enter Tryz.func164,Tryz.ntmps164
 go_wp2
 go_region_o
 all_goals (go_wp2;go_ret;exact ⟨rfl,A7u w⟩)
set_option maxHeartbeats 2000000 in
set_option maxRecDepth 100000 in
theorem C6z (b g:Nat) (p:Value) (cur:Array Value) (w:World) (a:w.heap[b]?=some (.cells #[p,.slice (some ⟨g,0,none⟩) 0 0] 215 (0,0))) (j:w.heap[g]?=some (.cells cur 5 (0,0))) :
  Calls Tryz.prog 164 #[.pointer (some ⟨b,0,none⟩)] w fun e w'=>e=.returned (.string ⟨#[]⟩)∧KeptBut [b,g] w w':=by
 have i:=fun (W:World) (q:Option Addr)=>Lib.run_unsafeString_none (P:=Tryz.prog) W 282 3 9 q
 have f:b<w.heap.size:=by
  rcases Nat.lt_or_ge b w.heap.size with h' | h'
  ·exact h'
  ·simp [Array.getElem?_eq_none h'] at a
 have h:w.drew.cell? ⟨b,1,none⟩=some (.slice (some ⟨g,0,none⟩) 0 0):=by
  have:w.drew.heap[b]?=some (.cells #[p,.slice (some ⟨g,0,none⟩) 0 0] 215 (0,0)):=a
  rw [Lib.cell_of_heap this];rfl
 have l:(Builtin.unsafeSliceData_ #[67] 282 #[.slice (some ⟨g,0,none⟩) 0 0]).run Tryz.prog w.drew=.ok (.pointer (some ⟨w.drew.heap.size,0,none⟩)) (w.drew.alloc (.view ⟨g,0,none⟩ 5)) :=
  Lib.run_unsafeSliceData_zero w.drew _ _ 5 Tryz.underlying282 ⟨g,0,none⟩ 0 (5,cur.size) (by have d:w.drew.heap[g]?=some (.cells cur 5 (0,0)):=j;simp [World.shape?,d])
 have k:(w.drew.alloc (.view ⟨g,0,none⟩ 5)).cell? ⟨b,1,none⟩=some (.slice (some ⟨g,0,none⟩) 0 0):=by
  have:(w.drew.alloc (.view ⟨g,0,none⟩ 5)).heap[b]?=_:=(Lib.alloc_old w.drew _ b f).trans a
  rw [Lib.cell_of_heap this];rfl
 have m:(w.alloc (.view ⟨g,0,none⟩ 5)).drew.cell? ⟨b,1,none⟩=some (.slice (some ⟨g,0,none⟩) 0 0):=k
 have c0:w.cell? ⟨b,1,none⟩=some (.slice (some ⟨g,0,none⟩) 0 0):=h
 have c:Tryz.prog.follows .mixedOrders=true:=by kernel_rfl
 go_enter Tryz.func164,Tryz.ntmps164
 go_wp2
 go_region_o
 all_goals (go_wp2;go_ret;exact ⟨rfl,(A7u w).alloc _⟩)
set_option maxHeartbeats 2000000 in
set_option maxRecDepth 100000 in
theorem D0o (b g cap:Nat) (p:Value) (w:World) (a:cap≠0) (d:w.heap[b]?=some (.cells #[p,.slice (some ⟨g,0,none⟩) 0 cap] 215 (0,0))) :
  Calls Tryz.prog 164 #[.pointer (some ⟨b,0,none⟩)] w fun e w'=>e=.returned (.string ⟨#[]⟩)∧KeptBut [b,g] w w':=by
 have h:=fun (W:World) (q:Option Addr)=>Lib.run_unsafeString_none (P:=Tryz.prog) W 282 3 9 q
 have i:w.drew.cell? ⟨b,1,none⟩=some (.slice (some ⟨g,0,none⟩) 0 cap):=by
  have:w.drew.heap[b]?=some (.cells #[p,.slice (some ⟨g,0,none⟩) 0 cap] 215 (0,0)):=d
  rw [Lib.cell_of_heap this];rfl
 have f:(Builtin.unsafeSliceData_ #[67] 282 #[.slice (some ⟨g,0,none⟩) 0 cap]).run Tryz.prog w.drew=.ok (.pointer (some ⟨g,0,none⟩)) w.drew :=
  Lib.run_unsafeSliceData_row _ _ _ _ _ _ a
 clear a
 have c:Tryz.prog.follows .mixedOrders=true:=by kernel_rfl
 go_enter Tryz.func164,Tryz.ntmps164
 go_wp2
 go_region_o
 all_goals (go_wp2;go_ret;exact ⟨rfl,A7u w⟩)
theorem st0 {L0:Fen.Own} {h:Hp} {w:World} (g:h.sub w) (f:A0u L0 h w):StW (cx w h (L0.map Prod.fst)) L0 [] w :=
 ⟨h,⟨fun q a=>(by cases a),g,Hp.le_refl _,fun b j=>.inl j,f,fun e i=>.inl (List.mem_map_of_mem i),KeptBut.refl _ _,fun d c=>by cases c⟩⟩
theorem D1n (b:Nat) (v:Value):Con Tryz.prog 239 [pt b 0] [bx b [.pointer none,v] 215] [] Unit (fun _=>.tuple #[]) (fun _=>[bx b [pt b 0,v] 215]) (fun _=>[]):=by
 refine ⟨⟨by kernel_rfl⟩,fun w h m l d=>?_⟩
 have a:=(d.1 _ (List.mem_singleton.2 rfl)).1
 simp only at a
 have f:=st0 l d
 refine (C2q b w (by rw [Lib.cell_of_heap a];rfl) (by simp [World.shape?,a]) (Lib.frozen_of_heap a 0)).mono ?_
 rintro e w' ⟨rfl,rfl⟩
 refine ⟨(),rfl,?_⟩
 have c:w.setCell ⟨b,0,none⟩ (.pointer (some ⟨b,0,none⟩))=w.setRow b #[pt b 0,v]:=by
  have:=setRow_heap w b #[Value.pointer none,v] #[pt b 0,v] 215 (0,0) a
  simp only [World.setCell,World.setRow]
  congr 1
  apply Array.ext_getElem?
  intro i
  simp only [Array.getElem?_modify]
  split
  ·rename_i j;subst j;simp [a]
  ·rfl
 rw [c]
 exact f.set (i:=0) rfl (setRow_heap w b _ _ 215 (0,0) a) (fun k g=>setRow_other w b k _ g) rfl rfl rfl oom
theorem C9v (b:Nat) (v:Value):Con Tryz.prog 239 [pt b 0] [bx b [pt b 0,v] 215] [] Unit (fun _=>.tuple #[]) (fun _=>[bx b [pt b 0,v] 215]) (fun _=>[]):=by
 refine ⟨⟨by kernel_rfl⟩,fun w h g f a=>?_⟩
 have c:=(a.1 _ (List.mem_singleton.2 rfl)).1
 simp only at c
 have d:=st0 f a
 refine (C5f b w (by rw [Lib.cell_of_heap c];rfl)).mono ?_
 rintro e w' ⟨rfl,rfl⟩
 exact ⟨(),rfl,d⟩
theorem E2d {L0:Fen.Own} {h:Hp} {w w':World} (i:h.sub w) (j:A0u L0 h w) (g:KeptBut (L0.map Prod.fst) w w'):StW (cx w h (L0.map Prod.fst)) [] [] w':=by
 refine ⟨h,⟨fun q l=>(by cases l),fun b o e=>?_,Hp.le_refl _,fun b p=>.inl p,⟨fun e f=>(by cases f),List.nodup_nil⟩,fun e f=>(by cases f),g,fun d m=>by cases m⟩⟩
 have a:b ∉ L0.map Prod.fst:=fun n=>by
  obtain ⟨k,c,rfl⟩:=List.mem_map.1 n
  rw [(j.1 k c).2] at e
  cases e
 rw [g.block b (Hp.lt i e) a]
 exact i b o e
theorem C9s (b:Nat) (p:Value) (l:List UInt8) (r:VR) (d:VOk 1 l.length r):Con Tryz.prog 164 [pt b 0] (bx b [p,vv r l.length] 215::(vo cU8 5 r l++[])) [] Unit (fun _=>sv l) (fun _=>[]) (fun _=>[]):=by
 refine ⟨⟨by kernel_rfl⟩,fun w h hq hs o=>?_⟩
 have m:=(o.1 (bx b [p,vv r l.length] 215) oom).1
 simp only at m
 have t:∀ {R:Ending→World→Prop},(∀ e w',(e=.returned (.string ⟨l.toArray⟩)∧KeptBut ((bx b [p,vv r l.length] 215::(vo cU8 5 r l++[])).map Prod.fst) w w')→R e w')→(Calls Tryz.prog 164 #[pt b 0] w fun e w'=>e=.returned (.string ⟨l.toArray⟩)∧KeptBut ((bx b [p,vv r l.length] 215::(vo cU8 5 r l++[])).map Prod.fst) w w')→Calls Tryz.prog 164 #[pt b 0] w R:=fun h1 h2=>h2.mono h1
 refine t (fun e w' ⟨z,c⟩=>⟨(),z,E2d hs o c⟩) ?_
 obtain ⟨q,k,j⟩:=r
 cases q with
 | none =>
  have v:l.length=0∧k=0:=d
  have hl:l=[]:=List.eq_nil_of_length_eq_zero v.1
  obtain ⟨_,c⟩:=v
  subst hl c
  exact D2m b p w m
 | some g =>
  have a:l.length * 1+j.length=k * 1∧l.length≤k∧k≤maxLen:=d
  have s:=(o.1 (bx g (l.flatMap cU8++j) 5) (by simp [vo])).1
  simp only at s
  have f:(l.flatMap cU8).length=l.length:=by rw [F5 (sz:=1) (fun _=>rfl)];omega
  cases l with
  | nil =>
   by_cases c:k=0
   ·subst c
    exact C6z b g p _ w m s
   ·exact D0o b g k p w c m
  | cons x l =>
   refine D0v b g k p _ (x::l) w oom m s a.2.1 a.2.2 (by simp only [List.size_toArray,List.length_append,f];omega) ?_
   intro i y n
   have u:=(List.getElem?_eq_some_iff.1 n).1
   rw [List.getElem?_toArray,List.getElem?_append_left (by rw [f];exact u),C9m _ _ u]
   rw [List.getElem?_eq_getElem u] at n
   simp only [Option.some.injEq] at n
   rw [n]
theorem C2c (b:Nat) (v:Value) (a:Option Addr) (h:a=none∨a=some ⟨b,0,none⟩):Con Tryz.prog 239 [pt b 0] [bx b [.pointer a,v] 215] [] Unit (fun _=>.tuple #[]) (fun _=>[bx b [pt b 0,v] 215]) (fun _=>[]):=by
 rcases h with rfl | rfl
 ·exact D1n b v
 ·exact C9v b v
end Go.Proofs.YtioaekgoceinkaaGreatDoor
set_option linter.unusedVariables false
set_option linter.unusedSimpArgs false
namespace Go.Fen
open Go Go.RowKit Go.Sort Go.Proofs
set_option maxRecDepth 100000
def E0c (g:Nat) (cs:List Value):Pers:=⟨fun h=>∃ T a,h g=some (.cells cs.toArray T a),fun {h h'} hl hp=>let ⟨T,a,e⟩:=hp;⟨T,a,hl g _ e⟩⟩
section
variable {P:Program}
theorem D8h {i:List (String×DataW Unit)} {w:World} {b:String} {g T:Nat} {ds:List (DataW Unit)} (m:(b,.agg ds) ∈ i) (hg:P.globalNamed b=some g) (hT:(P.globals[g]?).map (·.type)=some T)
  {e sz k:Nat} {α:Type} {c:α→List Value} {D:{H:Type}→DataW H→α→Prop} {p:Hp→α→Prop} (hc:Cod P e α c D p) (z:∀ x,(c x).length=sz) (v:P.cellsOf e=sz) (ht:P.underlying T=some (.array k e)) (a0:P.cellsOf T=k * sz)
  (j:DataW Unit→Option α) (s:∀ d a,D d a→j d=some a) {tab:List α} (u:ds.mapM j=some tab) (h:laidMet P i w):(E0c g (tab.flatMap c)).p (C9o w):=by
 obtain ⟨ps,h,_⟩:=h
 have:∀ (l:List (String×DataW Unit)) (ps:List MemPlace),DataW.LaidVars P w l ps→(b,.agg ds) ∈ l→∃ cs f q,w.var? P b=some cs∧DataW.trod (fun _=>()) P w 0 (fun _=>true) false f T cs.toList=some (.agg ds,q):=by
  intro l
  induction l with
  | nil=>intro ps _ m;cases m
  | cons y r ih =>
   intro ps h m
   obtain ⟨n,d⟩:=y
   obtain ⟨g',t,cs,f,p',q,h1,h2,h3,h4,h5,_⟩:=h
   rcases List.mem_cons.1 m with e | m
   ·simp only [Prod.mk.injEq] at e
    obtain ⟨rfl,rfl⟩:=e
    rw [hg] at h1
    obtain rfl:g=g':=Option.some.inj h1
    rw [hT] at h2
    obtain rfl:T=t:=Option.some.inj h2
    exact ⟨cs,f,p',h3,h4⟩
   ·exact ih q h5 m
 obtain ⟨cs,f,q,o,a1⟩:=this i ps h m
 have a2:=D0f hc z v ht a0 j s u a1
 unfold World.var? at o
 rw [hg] at o
 simp only [Option.bind_some] at o
 split at o
 ·rename_i cs' TT fr hh
  obtain rfl:cs'=cs:=Option.some.inj o
  refine ⟨TT,fr,?_⟩
  rw [← a2]
  exact hh
 ·cases o
end
theorem D6e {P:Program} {f:FuncId} {args:List Value} {Φ:List Pers} {v:Value} (c:HasBody P f)
  (h:∀ (w:World) (h:Hp),(∀ q ∈ Φ,q.p h)→h.sub w→Calls P f args.toArray w fun e w'=>e=.returned v∧∃ k g,w'=grow (w.drewN k) g):G3 P f args Φ v:=by
 refine ⟨c,fun w hp hΦ hs ho=>(h w hp hΦ hs).mono fun e w' a=>⟨(),a.1,hp,?_⟩⟩
 obtain ⟨a,k,g,rfl⟩:=a
 refine ⟨fun q l=>(by cases l),fun b o c=>?_,Hp.le_refl _,fun b c=>.inl c,⟨fun e a=>(by cases a),List.nodup_nil⟩,fun e a=>(by cases a),⟨rfl,rfl,rfl,?_,fun b c _=>?_⟩,fun d m=>(by cases m)⟩
 ·have j:=hs b o c
  obtain ⟨i,_⟩:=Array.getElem?_eq_some_iff.1 j
  show (w.heap++g)[b]?=some o
  rw [Array.getElem?_append_left i];exact j
 ·show w.heap.size≤(w.heap++g).size
  rw [Array.size_append];omega
 ·show (w.heap++g)[b]?=w.heap[b]?
  exact Array.getElem?_append_left c
end Go.Fen
namespace Go.Proofs.YtioaekgoceinkaaGreatDoor
open Go Go.Fen Go.RowKit Go.Sort
set_option maxRecDepth 100000
def D1p:Go.Shelf.Ren:=⟨fun | 171=>194 | 243=>249 | 246=>287 | 283=>315 | 284=>316 | 285=>317 | 286=>318 | 129=>326 | 317=>325 | 318=>327 | 319=>328 | 320=>329 | 337=>333 | 338=>334 | n=>n,fun | 3=>3 | 9=>9 | 2=>2 | 4=>4 | 171=>346 | 0=>0 | 53=>329 | 37=>67 | 5=>5 | 173=>348 | 212=>353 | 51=>326 | 20=>20 | 213=>354 | 46=>210 | 232=>359 | 233=>360 | n=>n,fun | 17=>5 | 18=>7 | 19=>8 | n=>n⟩
theorem D8z:Go.Proofs.LaysM.n171 Tryz.prog D1p where
 mixed:=by kernel_rfl
 f129:=Tryz.func326.trans (congrArg some okl)
 f171:=Tryz.func194.trans (congrArg some okl)
 f243:=Tryz.func249.trans (congrArg some okl)
 f246:=Tryz.func287.trans (congrArg some okl)
 f283:=Tryz.func315.trans (congrArg some okl)
 f284:=Tryz.func316.trans (congrArg some okl)
 f285:=Tryz.func317.trans (congrArg some okl)
 f286:=Tryz.func318.trans (congrArg some okl)
 f317:=Tryz.func325.trans (congrArg some okl)
 f318:=Tryz.func327.trans (congrArg some okl)
 f319:=Tryz.func328.trans (congrArg some okl)
 f320:=Tryz.func329.trans (congrArg some okl)
 f337:=Tryz.func333.trans (congrArg some okl)
 f338:=Tryz.func334.trans (congrArg some okl)
 t0:=Tryz.underlying0
 a0:=Tryz.isAgg0
 z0:=Tryz.sizeOf0
 v0:=Tryz.zeroValue0
 t2:=Tryz.underlying2
 a2:=Tryz.isAgg2
 z2:=Tryz.sizeOf2
 v2:=Tryz.zeroValue2
 t3:=Tryz.underlying3
 a3:=Tryz.isAgg3
 z3:=Tryz.sizeOf3
 v3:=Tryz.zeroValue3
 t4:=Tryz.underlying4
 a4:=Tryz.isAgg4
 z4:=Tryz.sizeOf4
 v4:=Tryz.zeroValue4
 t5:=Tryz.underlying5
 a5:=Tryz.isAgg5
 z5:=Tryz.sizeOf5
 v5:=Tryz.zeroValue5
 t9:=Tryz.underlying9
 a9:=Tryz.isAgg9
 z9:=Tryz.sizeOf9
 v9:=Tryz.zeroValue9
 t20:=Tryz.underlying20
 a20:=Tryz.isAgg20
 z20:=Tryz.sizeOf20
 v20:=Tryz.zeroValue20
 t37:=Tryz.underlying67
 a37:=Tryz.isAgg67
 z37:=Tryz.sizeOf67
 v37:=Tryz.zeroValue67
 t46:=Tryz.underlying210
 a46:=Tryz.isAgg210
 z46:=Tryz.sizeOf210
 v46:=Tryz.zeroValue210
 t51:=Tryz.underlying326
 a51:=Tryz.isAgg326
 z51:=Tryz.sizeOf326
 v51:=Tryz.zeroValue326
 t53:=Tryz.underlying329
 a53:=Tryz.isAgg329
 z53:=Tryz.sizeOf329
 v53:=Tryz.zeroValue329
 t171:=Tryz.underlying346
 a171:=Tryz.isAgg346
 z171:=Tryz.sizeOf346
 v171:=Tryz.zeroValue346
 t173:=Tryz.underlying348
 a173:=Tryz.isAgg348
 z173:=Tryz.sizeOf348
 v173:=Tryz.zeroValue348
 t212:=Tryz.underlying353
 a212:=Tryz.isAgg353
 z212:=Tryz.sizeOf353
 v212:=Tryz.zeroValue353
 t213:=Tryz.underlying354
 a213:=Tryz.isAgg354
 z213:=Tryz.sizeOf354
 t232:=Tryz.underlying359
 a232:=Tryz.isAgg359
 z232:=Tryz.sizeOf359
 v232:=Tryz.zeroValue359
 t233:=Tryz.underlying360
 a233:=Tryz.isAgg360
 z233:=Tryz.sizeOf360
 v233:=Tryz.zeroValue360
 g17:=by kernel_rfl
 g18:=by kernel_rfl
 g19:=by kernel_rfl
 i0:=by kernel_rfl
 i2:=by kernel_rfl
 i3:=by kernel_rfl
 i4:=by kernel_rfl
 i5:=by kernel_rfl
 i9:=by kernel_rfl
 i20:=by kernel_rfl
 i37:=by kernel_rfl
 i46:=by kernel_rfl
 i51:=by kernel_rfl
 i53:=by kernel_rfl
 i171:=by kernel_rfl
 i173:=by kernel_rfl
 i212:=by kernel_rfl
 i232:=by kernel_rfl
 i233:=by kernel_rfl
 m17:=by kernel_rfl
 m18:=by kernel_rfl
 m19:=by kernel_rfl
def B2w:List Value:=Lib.pow10Tab.map fun z=>Value.int .u64 z
theorem D8j (n:Int) (b:-9223372036854775808≤n∧n≤9223372036854775807):G3 Tryz.prog 194 [iv n] [E0c 5 B2w] (sv (Lib.itoa n)):=by
 refine D6e ⟨by kernel_rfl⟩ fun w h hΦ hs=>?_
 obtain ⟨T,c,e⟩:=hΦ _ (List.mem_cons_self ..)
 have a : Lib.TabIs Tryz.prog w "internal/strconv.uint64pow10" .u64 Lib.pow10Tab := by
  unfold Lib.TabIs World.var?
  rw [show Tryz.prog.globalNamed "internal/strconv.uint64pow10" = some 5 by kernel_rfl]
  show (match w.heap[5]? with | some (.cells cs _ _)=>some cs | _=>none)=_
  rw [hs 5 _ e];rfl
 exact Any.strconv_Itoa D8z n b.1 b.2 w a
theorem C0l (n:Int) (a:-9223372036854775808≤n) (b:n≤9223372036854775807):(Lib.itoa n).length≤21:=Lib.itoa_length_le n a b
end Go.Proofs.YtioaekgoceinkaaGreatDoor
