import Derived.Scope
import Derived.Laws.IdiomStrings
import Derived.ArgAppend
import Derived.Deep.AppendSrc
import Derived.Deep.Upon
import Derived.Laws.MakeOwn
import Derived.Carry
import Derived.ChangeSame
import Derived.ChangeArms
import Derived.ChangeShapes
import Derived.Lib.LaidTab
import Derived.Tactics
import Derived.Tactics2
import Derived.Defers
import Derived.Recover
import Derived.Laws.Pointers
import Derived.Test.YtkdgfkfbljdgmaaGreatDoorProg
import Derived.Lib.Builder
import Derived.Lib.UnsafeStr
import Derived.Laws.Externs
import Derived.WalkKit
import Derived.Shelf.RegionOpenPlain
import Derived.Shelf.Strconv.Itoa3
import Derived.Lib.ItoaLen
import Derived.Test.YtkdgfkfbljdgmaaGreatDoorMA1
set_option linter.unusedVariables false
set_option linter.unusedSimpArgs false
namespace Go.Fen
open Go Go.RowKit
set_option linter.unusedSimpArgs false
set_option linter.unusedVariables false
section
variable {P:Program} {n:Nat} {X:Cx} {K:Act→World→Prop} {Q:Exit→Act→World→Prop} {E E':Env} {L L':Own} {Φ Φ':List Pers}
theorem C5c {α:Type} {f:α→List Value} {q:Option Addr} {xs:List α} {w:World} (c:StW X L Φ w) (j:Nat) (hΦ:Φ[j]?=some (sl f q xs)) (b:0<xs.length):∃ a,q=some a :=
 let ⟨_,hp⟩:=c;C4g (hp.facts _ (List.mem_of_getElem? hΦ)) b
theorem A2b {c:Array Oper} {i m:Nat} {α:Type} {f:α→List Value} {q:Option Addr} {xs:List α} (j:Nat) (hΦ:Φ[j]?=some (sl f q xs)) (o:0<xs.length) (h:∀ a,q=some a→JD P n X c i m K E L Φ):JD P n X c i m K E L Φ:=fun a k e g=>by
 by_cases hC:∃ w,StW X L Φ w
 ·obtain ⟨w,d⟩:=hC
  obtain ⟨b,l⟩:=C5c d j hΦ o
  exact h b l a k e g
 ·exact A4f (fun w d=>hC ⟨w,d⟩) _ _
theorem B9w {g:Array Oper} {e:Nat} {c:Array Bool} {d:U3} {Φs:List Pers} {α:Type} {f:α→List Value} {q:Option Addr} {xs:List α} (j:Nat) (hΦ:Φ[j]?=some (sl f q xs)) (r:0<xs.length) (h:∀ a,q=some a→JH P n X g e c K d Φs E L Φ):JH P n X g e c K d Φs E L Φ :=
 ⟨fun p o l s k a w i=>by
  obtain ⟨b,m⟩:=C5c i.world j hΦ r
  exact (h b m).go p o l s k a w i⟩
theorem F7 {o:Oper} {T e sz:Nat} {x y:Operand} {q:Option Addr} {a:Addr} {b cap:Nat} {m:Int} (j:SlTy P T e sz) (f:o.op=.indexAddr T x y)
  (g:ev E x=some (.slice q b cap)) (d:q=some a) (i:ev E y=some (.int .i64 m)) (k:Nat) (c:m=k) (h:k<b):H9 P X o E L Φ (.pointer (some (a.add (k * sz)))):=by
 subst d;exact C7u j f g i k c h
theorem H5 {α:Type} {c:α→List Value} {sz:Nat} {q:Option Addr} {a:Addr} {xs:List α} (d:q=some a) (b:∀ x,(c x).length=sz) (j:Nat) (h:Φ[j]?=some (sl c q xs)) {k:Nat} {v:α} (e:xs[k]?=some v):J8 Φ (at_ (a.add (k * sz)) (c v)):=by
 subst d;exact D3k b j h e
theorem StW.sealed {α:Type} {c:α→List Value} {T:Nat} {r:VR} {xs:List α} {pre post:Own} {w:World} {sz:Nat} (d:VOk sz xs.length r) (h:StW X (pre++(vo c T r xs++post)) Φ w):StW X (pre++post) (sl c (va r.q) xs::Φ) w:=by
 unfold vo at h
 cases a:r.q with
 | none =>
  rw [a] at h
  unfold VOk at d
  rw [a] at d
  simp only [List.nil_append] at h
  refine h.fact _ fun p _=>?_
  have:xs=[]:=List.length_eq_zero_iff.1 d.1
  rw [this];rfl
 | some b =>
  rw [a] at h
  simp only [List.cons_append,List.nil_append] at h
  have e:(pre++bx b (xs.flatMap c++r.j) T::post).Perm (bx b (xs.flatMap c++r.j) T::(pre++post)):=List.perm_middle
  have k:=(h.perm e).freeze (i:=0) rfl
  refine StW.foll (Φ:=blk b (.cells (xs.flatMap c++r.j).toArray T (0,0))::Φ) k fun p e q a=>?_
  rcases List.mem_cons.1 a with rfl | a
  ·have g:p b=some (.cells (xs.flatMap c++r.j).toArray T (0,0)):=e (blk b _) oom
   refine .inr ⟨rfl,_,_,_,g,fun j v f=>?_⟩
   simp only [Nat.zero_add,List.getElem?_toArray]
   rw [List.getElem?_append_left (List.getElem?_eq_some_iff.1 f).1];exact f
  ·exact e q (by simp [a])
theorem U6 {b:Array Oper} {i m:Nat} {α:Type} {c:α→List Value} {T:Nat} {r:VR} {xs:List α} (pre post:Own) {sz:Nat} (e:VOk sz xs.length r) (f:L=pre++(vo c T r xs++post)) (h:JI P n X b i m K Q E (pre++post) (sl c (va r.q) xs::Φ)):JI P n X b i m K Q E L Φ :=
 fun a w d=>h a w ⟨d.size,d.defers,d.has,by have:=d.world;rw [f] at this;exact this.sealed e⟩
theorem C0d {e:Code} {α:Type} {c:α→List Value} {T:Nat} {r:VR} {xs:List α} (pre post:Own) {sz:Nat} (d:VOk sz xs.length r) (f:L=pre++(vo c T r xs++post)) (h:J P n X e Q E (pre++post) (sl c (va r.q) xs::Φ)):J P n X e Q E L Φ :=
 fun a w b=>h a w ⟨b.size,b.defers,b.has,by have:=b.world;rw [f] at this;exact this.sealed d⟩
theorem B9f {α:Type} {c:α→List Value} {T:Nat} {r:VR} {xs:List α} (pre post:Own) {sz:Nat} (d:VOk sz xs.length r) (e:L=pre++(vo c T r xs++post)) (h:JQ n X K E (pre++post) (sl c (va r.q) xs::Φ)):JQ n X K E L Φ :=
 fun a w b=>h a w ⟨b.size,b.defers,b.has,by have:=b.world;rw [e] at this;exact this.sealed d⟩
theorem A5.dropT (k:Nat) (h:Φ.drop k=Φ'):A5 Φ Φ':=fun p b q a=>b q (by rw [← h] at a;exact (List.drop_sublist k Φ).subset a)
theorem A2l {d:Array Oper} {f:Nat} {b:Array Bool} {e:U3} {Φs:List Pers} (i:Nat) {o:Oper} {α:Type} {val:α→Value} {L':α→Own} {Φ':α→List Pers} (Lh:Own) (c:Array Bool) (k:d[i]?=some o) (m:A5k d o E=some true) (p:W9 n o.dst=true)
  (s:b.setIfInBounds i true=c) (j:b.setIfInBounds i true=c) (q:e.at c=Lh) (t:Tri P n X o E L Φ α val L' Φ') (g:∀ x,Lh.Sublist (L' x)) (hΦ':∀ x,A5 (Φ' x) Φs) (h:∀ x,JH P n X d f c K e Φs (Env.put E o.dst (val x)) (L' x) (Φ' x)) :
  ∀ a w,St n X E L Φ a w→A1f d=true→Region.noSelect d=true→b.size=d.size→wpOpIn (FW X.rho) 0 P d (oN K) i (fun r w'=>((b.setIfInBounds i true).size=d.size∧StW X (e.at (b.setIfInBounds i true)) Φs w')∧AH X.rho P d (oN K) (fun l w=>l.size=d.size∧StW X (e.at l) Φs w) f (b.setIfInBounds i true) r w') a w:=by
 subst s q
 exact C7t i k m p t g hΦ' h
theorem C0a {c:Array Oper} {i m:Nat} (t:Nat) {g b:Bool} (e:E.lookup t=some (.bool g)) (f:g=b) (h:JI P n X c i m K Q ((t,.bool b)::E) L Φ):JI P n X c i m K Q E L Φ:=fun a w d=>h a w ⟨d.size,d.defers,d.has.lit e f,d.world⟩
theorem StW.fix {w:World} {i b T:Nat} {cs:List Value} (e:L[i]?=some (bx b cs T)) (h:StW X L Φ w):StW X (L.eraseIdx i) (at_ ⟨b,0,none⟩ cs::Φ) w :=
 (h.freeze e).foll fun p c q a=>by
  rcases List.mem_cons.1 a with rfl | a
  ·have d:p b=some (.cells cs.toArray T (0,0)):=c (blk b (.cells cs.toArray T (0,0))) oom
   exact .inr ⟨rfl,_,_,_,d,fun j v f=>by simpa using f⟩
  ·exact c q (by simp [a])
theorem B3c {c:Array Oper} {i m:Nat} (k:Nat) {b T:Nat} {cs:List Value} (e:L[k]?=some (bx b cs T)) (h:JI P n X c i m K Q E (L.eraseIdx k) (at_ ⟨b,0,none⟩ cs::Φ)):JI P n X c i m K Q E L Φ :=
 fun a w d=>h a w ⟨d.size,d.defers,d.has,d.world.fix e⟩
theorem I0 {o:Oper} {c:Call} {e:Operand} {k:FuncId} {first cap:Array Value} {f args:List Value} {L0 L2:Own} {Φ0:List Pers} {α:Type} {val:α→Value} {L1:α→Own} {Φ1:α→List Pers}
  (b:Con P k args L0 Φ0 α val L1 Φ1) (j:o.op=.call c) (i:c.callee=.value e) (l:ev E e=some (.func (.func k) first cap)) (a:c.args.toList.mapM (ev E)=some f) (g:(first++f.toArray++cap).toList=args)
  (hΦ:A5 Φ Φ0) (m:L.Perm (L0++L2)) (L':α→Own) (d:∀ x,L1 x++L2=L' x):Tri P n X o E L Φ α val L' (fun x=>Φ1 x++Φ):=by
 obtain rfl:(fun x=>L1 x++L2)=L':=funext d
 exact C2c b j i l a g hΦ m
theorem A1u {b:Frame} {a:Act} {k:List Item} {cs:List Frame} {w:World} {c:Code}:step P (lone (b.atR a (.code (.scope c)::k)) cs w)=.next (lone (b.atR a (.code c::.inScope c::k)) cs w) :=
 step_lone_go (by simp [stepG,stepG.exec,Frame.atR])
theorem B8j {b:Frame} {a:Act} {k:List Item} {cs:List Frame} {w:World} {c:Code}:step P (lone (b.atR a (.inScope c::k)) cs w)=.next (lone (b.atR a k) cs w) :=
 step_lone_go (by simp [stepG,stepG.exec,Frame.atR])
theorem C2z {F:Fence} {m:Nat} {c:Code} {a:Act} {w:World} (h:c.wpIn F m P (Exit.noGoto Q) a w):(Code.scope c).wpIn F m P Q a w:=by
 intro b k cs q n hr
 have f:(lone (b.atR a (.code (.scope c)::k)) cs w).fenced P F:=fenced_calm n hr rfl
 obtain ⟨e,i,j,g,d⟩:=h b (.inScope c::k) cs q n hr
 cases e with
 | normal=>exact ⟨.normal,i,j,g,.head f A1u (StepsIn.trans d (.one (fenced_calm n hr rfl) B8j))⟩
 | exit id =>
  have r:exitTo id (.inScope c::k)=exitTo id k:=by simp [exitTo]
  exact ⟨.exit id,i,j,g,fun s o=>.head f A1u (d.1 s (by rw [r];exact o)),
   fun p o=>let ⟨k₁,h1,h2⟩:=d.2 p (by rw [r];exact o);⟨k₁,h1,.head f A1u h2⟩⟩
 | goto l=>exact g.elim
 | ret=>exact ⟨_,i,j,g,.of_steps (.one f A1u) d⟩
 | panic ch=>exact ⟨_,i,j,g,.of_steps (.one f A1u) d⟩
 | outgrown=>exact ⟨_,i,j,g,.of_steps (.one f A1u) d⟩
theorem C5h {c:Code} (h:J P n X c (Exit.noGoto Q) E L Φ):J P n X (.scope c) Q E L Φ:=fun a w b=>C2z (h a w b)
theorem C5m {l:Nat} (h:JQ n X (Q .normal) E L Φ):J P n X (.label l) Q E L Φ:=fun a w b=>wpIn_label (h a w b)
theorem B2x {o:Oper} {T:TypeId} {x:Operand} {a c:Int} (d:o.op=.unOp .neg T x) (b:ev E x=some (.int .i64 a)) (e:-a=c) (h:-9223372036854775808≤c∧c≤9223372036854775807):H9 P X o E L Φ (.int .i64 c) :=
 .pure (by simp only [A6j,d,b];rw [show (0 - a:Int)=c by omega,A4g (k:=.i64) h.1 h.2])
theorem B1u {b:Array Oper} {i m:Nat} (hΦ:A5 Φ Φ') (h:JI P n X b i m K Q E L Φ'):JI P n X b i m K Q E L Φ:=fun a w c=>h a w ⟨c.size,c.defers,c.has,c.world.foll hΦ⟩
theorem A5.yield (a:List Pers) {A B:List Pers}:A5 (A++(a++B)) (a++A):=fun p b q c=>b q (by
 rcases List.mem_append.1 c with h | h
 ·exact List.mem_append_right _ (List.mem_append_left _ h)
 ·exact List.mem_append_left _ h)
theorem C2d {α:Type} {l:List α}:∀ {cs:List (List α)},l ∈ cs→l.Sublist cs.flatten
 | [],h=>by cases h
 | c::cs,h=>by
  rw [List.flatten_cons]
  rcases List.mem_cons.1 h with rfl | h
  ·exact List.sublist_append_left _ _
  ·exact (C2d h).trans (List.sublist_append_right _ _)
theorem mcT (cs:List Fen.Own) (i:Nat) (a:L=cs.flatten) (b:cs[i]?=some L'):L'.Sublist L:=by
 subst a;exact C2d (List.mem_of_getElem? b)
theorem A9q {Y:Cx} {β σ:Type} {I:List β→σ→Prop} {Jx:Code→σ→Prop} {Lk:σ→Own} {Φk:σ→List Pers} {rest:List β} (s:σ) (c:I rest s) (d:(Lk s).Sublist L) (hΦ:A5 Φ (Φk s)):JQ n Y (RP Y I Jx Lk Φk rest .normal) E L Φ :=
 fun a w b=>⟨s,c,(b.world.sub d).foll hΦ⟩
end
end Go.Fen
set_option linter.unusedVariables false
set_option linter.unusedSimpArgs false
namespace Go.Fen
open Go Go.RowKit
set_option linter.unusedSimpArgs false
set_option linter.unusedVariables false
section
variable {P:Program} {n:Nat} {X:Cx} {K:Act→World→Prop} {Q:Exit→Act→World→Prop} {E E':Env} {L L':Own} {Φ Φ':List Pers}
def M9 (ds:List (Nat×Obj)):Prop:=(ds.map Prod.fst).Nodup∧∀ d ∈ ds,d.2=.deferred (some [])
theorem M9.nil:M9 []:=⟨List.nodup_nil,fun d a=>by cases a⟩
theorem M9.cons {d:Nat} {ds:List (Nat×Obj)} (h:M9 ds) (b:d ∉ ds.map Prod.fst):M9 ((d,.deferred (some []))::ds) :=
 ⟨by rw [List.map_cons,List.nodup_cons];exact ⟨b,h.1⟩,fun e a=>by
  rcases List.mem_cons.1 a with rfl | a
  ·rfl
  ·exact h.2 e a⟩
theorem C9o {c:Code} {β:Type} (I:β→Prop) (Ei:β→Env) (Li:β→Own) (Φi:β→List Pers) (μ:β→Nat) (b:β) (s:M9 X.D) (o:I b) (hE:K7 E (Ei b)) (p:(Li b).Sublist L) (hΦ:A5 Φ (Φi b))
  (h:∀ x ds,M9 ds→I x→J P n (X.wd ds) c (Exit.then (fun a w=>∃ y ds,M9 ds∧I y∧μ y<μ x∧St n (X.wd ds) (Ei y) (Li y) (Φi y) a w) Q) (Ei x) (Li x) (Φi x)):J P n X (.loop c) Q E L Φ:=by
 intro a w f
 refine wpIn_loop_ghost (fun k a w=>∃ x ds,M9 ds∧I x∧μ x=k∧St n (X.wd ds) (Ei x) (Li x) (Φi x) a w) (μ b) ⟨b,X.D,s,o,rfl,f.size,f.defers,f.has.weaken (J1 hE),(f.world.sub p).foll hΦ⟩ ?_
 rintro k a w ⟨x,ds,j,r,rfl,m⟩
 refine Code.wpIn_mono (fun e a w q=>?_) (h x ds j r a w m)
 cases e with
 | normal=>obtain ⟨y,l,d,i,t,g⟩:=q;exact ⟨μ y,t,y,l,d,i,rfl,g⟩
 | _=>exact q
end
end Go.Fen
set_option linter.unusedVariables false
set_option linter.unusedSimpArgs false
namespace Go.Fen
open Go Go.RowKit
set_option linter.unusedSimpArgs false
set_option linter.unusedVariables false
def E4 (s:Slc):List Value:=[.slice s.q s.n s.k]
def D3 {α:Type} (c:α→List Value) (rs:List Slc) (xss:List (List α)):Pers:=⟨fun h=>∀ (i:Nat) r xs,rs[i]?=some r→xss[i]?=some xs→(sl c r.q xs).p h,fun {h h'} hl hp i r xs h1 h2=>(sl c r.q xs).mono hl (hp i r xs h1 h2)⟩
def E3 {α:Type} (rs:List Slc) (xss:List (List α)):Prop:=rs.length=xss.length∧∀ (i:Nat) r xs,rs[i]?=some r→xss[i]?=some xs→r.n=xs.length∧r.n≤r.k∧xs.length≤9223372036854775807
section
variable {P:Program} {n:Nat} {X:Cx} {K:Act→World→Prop} {Q:Exit→Act→World→Prop} {E E':Env} {L L':Own} {Φ Φ':List Pers}
theorem C9e {α:Type} {c:α→List Value} {rs:List Slc} {xss:List (List α)} (j:Nat) (h:Φ[j]?=some (D3 c rs xss)) {i:Nat} {r:Slc} {xs:List α} (hr:rs[i]?=some r) (a:xss[i]?=some xs):J8 Φ (sl c r.q xs) :=
 fun p b=>b _ (List.mem_of_getElem? h) i r xs hr a
theorem A0t (c:L.Perm L') (h:JQ n X K E L' Φ):JQ n X K E L Φ:=fun a w b=>h a w ⟨b.size,b.defers,b.has,b.world.perm c⟩
theorem A0p {c:Code} {q:Pers} (a:J8 Φ q) (h:J P n X c Q E L (q::Φ)):J P n X c Q E L Φ:=D1x q a h
theorem M8 {a:Array Oper} {i m:Nat} {q:Pers} (b:J8 Φ q) (h:JI P n X a i m K Q E L (q::Φ)):JI P n X a i m K Q E L Φ:=C9c q b h
theorem B6l {b:Array Oper} {i m:Nat} {q:Pers} (d:J8 Φ q) (h:JD P n X b i m K E L (q::Φ)):JD P n X b i m K E L Φ:=by
 intro a j f g
 have e:StW X L (q::Φ)=StW X L Φ:=by
  funext w
  refine propext ⟨fun c=>c.foll fun p k q d=>k q (List.mem_cons_of_mem _ d),fun c=>c.fact q d⟩
 have:=h a j f g
 rw [e] at this
 exact this
end
end Go.Fen
set_option linter.unusedVariables false
set_option linter.unusedSimpArgs false
namespace Go.Fen
open Go Go.RowKit
theorem bt {ρ:Type} {c:Bool} {a b R:ρ} (h:(bif c then a else b)=R) (d:c=true):a=R:=by rw [d] at h;exact h
theorem bf {ρ:Type} {c:Bool} {a b R:ρ} (h:(bif c then a else b)=R) (d:c=false):b=R:=by rw [d] at h;exact h
theorem gd {α:Type} {xs:List α} {k:Nat} (d:α) (h:k<xs.length):xs[k]?=some (xs.getD k d):=by
 rw [List.getElem?_eq_getElem h];simp [h]
theorem Y3 {α:Type} {xs:List α} {k:Nat} (d:α) (h:k<xs.length):xs.drop k=xs.getD k d::xs.drop (k+1):=by
 rw [List.drop_eq_getElem_cons h];congr 1;simp [h]
theorem Y4 {α:Type} {xs:List α} {k:Nat} (h:¬ ((k:Int)<(xs.length:Int))):xs.drop k=[]:=List.drop_eq_nil_of_le opx
section
variable {P:Program} {n:Nat} {X:Cx} {K:Act→World→Prop} {Q:Exit→Act→World→Prop} {E E':Env} {L L':Own} {Φ Φ':List Pers}
theorem D0p {x y:Code} {β:Type} (I:β→Prop) (Ei:β→Env) (Li:β→Own) (Φi:β→List Pers)
  (f:J P n X x (Exit.then (fun a w=>∃ y,I y∧St n X (Ei y) (Li y) (Φi y) a w) Q) E L Φ) (g:∀ z,I z→J P n X y Q (Ei z) (Li z) (Φi z)):J P n X (.seq x y) Q E L Φ :=
 fun a w b=>wpIn_seq (Code.wpIn_mono (fun e a w q=>by
  cases e with
  | normal=>obtain ⟨z,d,c⟩:=q;exact g z d a w c
  | _=>exact q) (f a w b))
theorem JL1 {c:Code} {β1:Type} (I:β1→Prop) (Ei:β1→Env) (Li:β1→Own) (Φi:β1→List Pers) (μ:β1→Nat) (b:β1) (g:I b) (hE:K7 E (Ei b)) (j:(Li b).Sublist L) (hΦ:A5 Φ (Φi b))
  (h:∀ b,I b→J P n X c (Exit.then (fun a w=>∃ d,I d∧μ d<μ b∧St n X (Ei d) (Li d) (Φi d) a w) Q) (Ei b) (Li b) (Φi b)):J P n X (.loop c) Q E L Φ :=
 B5s (β:=β1) (fun x=>I x) (fun x=>Ei x) (fun x=>Li x) (fun x=>Φi x) (fun x=>μ x) b g hE j hΦ fun x m a w f=>Code.wpIn_mono (fun e a w q=>by
  cases e with
  | normal=>obtain ⟨d,l,k,i⟩:=q;exact ⟨d,l,k,i⟩
  | _=>exact q) (h x m a w f)
theorem JS1 {x y:Code} {β1:Type} (I:β1→Prop) (Ei:β1→Env) (Li:β1→Own) (Φi:β1→List Pers)
  (i:J P n X x (Exit.then (fun a w=>∃ b,I b∧St n X (Ei b) (Li b) (Φi b) a w) Q) E L Φ) (j:∀ c,I c→J P n X y Q (Ei c) (Li c) (Φi c)):J P n X (.seq x y) Q E L Φ :=
 D0p (β:=β1) (fun x=>I x) (fun x=>Ei x) (fun x=>Li x) (fun x=>Φi x) (fun a w d=>Code.wpIn_mono (fun e a w q=>by
  cases e with
  | normal=>obtain ⟨b,h,f⟩:=q;exact ⟨b,h,f⟩
  | _=>exact q) (i a w d)) fun x g=>j x g
theorem D4g {c:Code} {β1 β2 β3:Type} (I:β1→β2→β3→Prop) (Ei:β1→β2→β3→Env) (Li:β1→β2→β3→Own) (Φi:β1→β2→β3→List Pers) (μ:β1→β2→β3→Nat) (f:β1) (b:β2) (d:β3) (y:M9 X.D) (o:I f b d) (hE:K7 E (Ei f b d)) (s:(Li f b d).Sublist L) (hΦ:A5 Φ (Φi f b d))
  (h:∀ f b d ds,M9 ds→I f b d→J P n (X.wd ds) c (Exit.then (fun a w=>∃ j g i ds,M9 ds∧I j g i∧μ j g i<μ f b d∧St n (X.wd ds) (Ei j g i) (Li j g i) (Φi j g i) a w) Q) (Ei f b d) (Li f b d) (Φi f b d)):J P n X (.loop c) Q E L Φ :=
 C9o (β:=β1×β2×β3) (fun x=>I x.1 x.2.1 x.2.2) (fun x=>Ei x.1 x.2.1 x.2.2) (fun x=>Li x.1 x.2.1 x.2.2) (fun x=>Φi x.1 x.2.1 x.2.2) (fun x=>μ x.1 x.2.1 x.2.2) (f,b,d) y o hE s hΦ fun x ds k v a w m=>Code.wpIn_mono (fun e a w q=>by
  cases e with
  | normal=>obtain ⟨j,g,i,l,r,u,t,p⟩:=q;exact ⟨(j,g,i),l,r,u,t,p⟩
  | _=>exact q) (h x.1 x.2.1 x.2.2 ds k v a w m)
theorem C7o {X':Cx} {β1 β2 β3:Type} {I:β1→β2→β3→Prop} {Ei:β1→β2→β3→Env} {Li:β1→β2→β3→Own} {Φi:β1→β2→β3→List Pers} {μ:β1→β2→β3→Nat} {z1:β1} {z2:β2} {z3:β3} (hX:X'=X.wd X'.D) (l:M9 X'.D) (d:β1) (b:β2) (c:β3) (j:I d b c) (hμ:μ d b c<μ z1 z2 z3) (hE:K7 E (Ei d b c)) (k:(Li d b c).Sublist L) (hΦ:A5 Φ (Φi d b c)) :
  JQ n X' (fun a w=>∃ i f g ds,M9 ds∧I i f g∧μ i f g<μ z1 z2 z3∧St n (X.wd ds) (Ei i f g) (Li i f g) (Φi i f g) a w) E L Φ :=
 fun _ _ e=>by
  rw [hX] at e
  exact ⟨d,b,c,X'.D,l,j,hμ,e.size,e.defers,e.has.weaken (J1 hE),(e.world.sub k).foll hΦ⟩
theorem JL4 {c:Code} {β1 β2 β3 β4:Type} (I:β1→β2→β3→β4→Prop) (Ei:β1→β2→β3→β4→Env) (Li:β1→β2→β3→β4→Own) (Φi:β1→β2→β3→β4→List Pers) (μ:β1→β2→β3→β4→Nat) (f:β1) (b:β2) (d:β3) (g:β4) (o:I f b d g) (hE:K7 E (Ei f b d g)) (r:(Li f b d g).Sublist L) (hΦ:A5 Φ (Φi f b d g))
  (h:∀ f b d g,I f b d g→J P n X c (Exit.then (fun a w=>∃ l j k i,I l j k i∧μ l j k i<μ f b d g∧St n X (Ei l j k i) (Li l j k i) (Φi l j k i) a w) Q) (Ei f b d g) (Li f b d g) (Φi f b d g)):J P n X (.loop c) Q E L Φ :=
 B5s (β:=β1×β2×β3×β4) (fun x=>I x.1 x.2.1 x.2.2.1 x.2.2.2) (fun x=>Ei x.1 x.2.1 x.2.2.1 x.2.2.2) (fun x=>Li x.1 x.2.1 x.2.2.1 x.2.2.2) (fun x=>Φi x.1 x.2.1 x.2.2.1 x.2.2.2) (fun x=>μ x.1 x.2.1 x.2.2.1 x.2.2.2) (f,b,d,g) o hE r hΦ fun x u a w m=>Code.wpIn_mono (fun e a w q=>by
  cases e with
  | normal=>obtain ⟨l,j,k,i,t,s,p⟩:=q;exact ⟨(l,j,k,i),t,s,p⟩
  | _=>exact q) (h x.1 x.2.1 x.2.2.1 x.2.2.2 u a w m)
theorem JL5 {c:Code} {β1 β2 β3 β4 β5:Type} (I:β1→β2→β3→β4→β5→Prop) (Ei:β1→β2→β3→β4→β5→Env) (Li:β1→β2→β3→β4→β5→Own) (Φi:β1→β2→β3→β4→β5→List Pers) (μ:β1→β2→β3→β4→β5→Nat) (f:β1) (b:β2) (d:β3) (i:β4) (g:β5) (r:I f b d i g) (hE:K7 E (Ei f b d i g)) (t:(Li f b d i g).Sublist L) (hΦ:A5 Φ (Φi f b d i g))
  (h:∀ f b d i g,I f b d i g→J P n X c (Exit.then (fun a w=>∃ o j m k l,I o j m k l∧μ o j m k l<μ f b d i g∧St n X (Ei o j m k l) (Li o j m k l) (Φi o j m k l) a w) Q) (Ei f b d i g) (Li f b d i g) (Φi f b d i g)):J P n X (.loop c) Q E L Φ :=
 B5s (β:=β1×β2×β3×β4×β5) (fun x=>I x.1 x.2.1 x.2.2.1 x.2.2.2.1 x.2.2.2.2) (fun x=>Ei x.1 x.2.1 x.2.2.1 x.2.2.2.1 x.2.2.2.2) (fun x=>Li x.1 x.2.1 x.2.2.1 x.2.2.2.1 x.2.2.2.2) (fun x=>Φi x.1 x.2.1 x.2.2.1 x.2.2.2.1 x.2.2.2.2) (fun x=>μ x.1 x.2.1 x.2.2.1 x.2.2.2.1 x.2.2.2.2) (f,b,d,i,g) r hE t hΦ fun x y a w p=>Code.wpIn_mono (fun e a w q=>by
  cases e with
  | normal=>obtain ⟨o,j,m,k,l,v,u,s⟩:=q;exact ⟨(o,j,m,k,l),v,u,s⟩
  | _=>exact q) (h x.1 x.2.1 x.2.2.1 x.2.2.2.1 x.2.2.2.2 y a w p)
theorem JL6 {c:Code} {β1 β2 β3 β4 β5 β6:Type} (I:β1→β2→β3→β4→β5→β6→Prop) (Ei:β1→β2→β3→β4→β5→β6→Env) (Li:β1→β2→β3→β4→β5→β6→Own) (Φi:β1→β2→β3→β4→β5→β6→List Pers) (μ:β1→β2→β3→β4→β5→β6→Nat) (g:β1) (b:β2) (d:β3) (j:β4) (i:β5) (f:β6) (t:I g b d j i f) (hE:K7 E (Ei g b d j i f)) (v:(Li g b d j i f).Sublist L) (hΦ:A5 Φ (Φi g b d j i f))
  (h:∀ g b d j i f,I g b d j i f→J P n X c (Exit.then (fun a w=>∃ r k p l m o,I r k p l m o∧μ r k p l m o<μ g b d j i f∧St n X (Ei r k p l m o) (Li r k p l m o) (Φi r k p l m o) a w) Q) (Ei g b d j i f) (Li g b d j i f) (Φi g b d j i f)):J P n X (.loop c) Q E L Φ :=
 B5s (β:=β1×β2×β3×β4×β5×β6) (fun x=>I x.1 x.2.1 x.2.2.1 x.2.2.2.1 x.2.2.2.2.1 x.2.2.2.2.2) (fun x=>Ei x.1 x.2.1 x.2.2.1 x.2.2.2.1 x.2.2.2.2.1 x.2.2.2.2.2) (fun x=>Li x.1 x.2.1 x.2.2.1 x.2.2.2.1 x.2.2.2.2.1 x.2.2.2.2.2) (fun x=>Φi x.1 x.2.1 x.2.2.1 x.2.2.2.1 x.2.2.2.2.1 x.2.2.2.2.2) (fun x=>μ x.1 x.2.1 x.2.2.1 x.2.2.2.1 x.2.2.2.2.1 x.2.2.2.2.2) (g,b,d,j,i,f) t hE v hΦ fun x hx a w s=>Code.wpIn_mono (fun e a w q=>by
  cases e with
  | normal=>obtain ⟨r,k,p,l,m,o,z,y,u⟩:=q;exact ⟨(r,k,p,l,m,o),z,y,u⟩
  | _=>exact q) (h x.1 x.2.1 x.2.2.1 x.2.2.2.1 x.2.2.2.2.1 x.2.2.2.2.2 hx a w s)
theorem JL7 {c:Code} {β1 β2 β3 β4 β5 β6 β7:Type} (I:β1→β2→β3→β4→β5→β6→β7→Prop) (Ei:β1→β2→β3→β4→β5→β6→β7→Env) (Li:β1→β2→β3→β4→β5→β6→β7→Own) (Φi:β1→β2→β3→β4→β5→β6→β7→List Pers) (μ:β1→β2→β3→β4→β5→β6→β7→Nat) (f:β1) (b:β2) (j:β3) (i:β4) (g:β5) (d:β6) (k:β7) (u:I f b j i g d k) (hE:K7 E (Ei f b j i g d k)) (v:(Li f b j i g d k).Sublist L) (hΦ:A5 Φ (Φi f b j i g d k))
  (h:∀ f b j i g d k,I f b j i g d k→J P n X c (Exit.then (fun a w=>∃ t l o r m s p,I t l o r m s p∧μ t l o r m s p<μ f b j i g d k∧St n X (Ei t l o r m s p) (Li t l o r m s p) (Φi t l o r m s p) a w) Q) (Ei f b j i g d k) (Li f b j i g d k) (Φi f b j i g d k)):J P n X (.loop c) Q E L Φ :=
 B5s (β:=β1×β2×β3×β4×β5×β6×β7) (fun x=>I x.1 x.2.1 x.2.2.1 x.2.2.2.1 x.2.2.2.2.1 x.2.2.2.2.2.1 x.2.2.2.2.2.2) (fun x=>Ei x.1 x.2.1 x.2.2.1 x.2.2.2.1 x.2.2.2.2.1 x.2.2.2.2.2.1 x.2.2.2.2.2.2) (fun x=>Li x.1 x.2.1 x.2.2.1 x.2.2.2.1 x.2.2.2.2.1 x.2.2.2.2.2.1 x.2.2.2.2.2.2) (fun x=>Φi x.1 x.2.1 x.2.2.1 x.2.2.2.1 x.2.2.2.2.1 x.2.2.2.2.2.1 x.2.2.2.2.2.2) (fun x=>μ x.1 x.2.1 x.2.2.1 x.2.2.2.1 x.2.2.2.2.1 x.2.2.2.2.2.1 x.2.2.2.2.2.2) (f,b,j,i,g,d,k) u hE v hΦ fun x hx a w y=>Code.wpIn_mono (fun e a w q=>by
  cases e with
  | normal=>obtain ⟨t,l,o,r,m,s,p,h1,h2,z⟩:=q;exact ⟨(t,l,o,r,m,s,p),h1,h2,z⟩
  | _=>exact q) (h x.1 x.2.1 x.2.2.1 x.2.2.2.1 x.2.2.2.2.1 x.2.2.2.2.2.1 x.2.2.2.2.2.2 hx a w y)
end
end Go.Fen
set_option linter.unusedVariables false
set_option linter.unusedSimpArgs false
namespace Go.Fen
open Go Go.RowKit
def X3 (n:Int):List Value:=[.int .i64 n]
def cU8 (b:UInt8):List Value:=[.int .u8 (b.toNat:Int)]
def D1r (s:List UInt8):List Value:=[.string (bs s)]
def H4 (b:Bool):List Value:=[.bool b]
def by8 (n:Int):UInt8:=UInt8.ofNat n.toNat
theorem D3d (b:UInt8):(b.toNat:Int)≤255:=by have:=b.toNat_lt;omega
theorem A8q (b:UInt8):IntKind.i64.wrap (b.toNat:Int)=b.toNat:=A4g (by show (-9223372036854775808:Int)≤_;omega) (by have:=D3d b;show _≤(9223372036854775807:Int);omega)
theorem C5u {n:Int} (h:0≤n∧n≤255):((by8 n).toNat:Int)=n:=by
 unfold by8;rw [UInt8.toNat_ofNat'];omega
theorem C1f {α:Type} {x:α} {e R:List α} (h:x::e=R):∃ R',e=R'∧R=x::R':=⟨e,rfl,h.symm⟩
section
variable {P:Program} {n:Nat} {X:Cx} {K:Act→World→Prop} {Q:Exit→Act→World→Prop} {E E':Env} {L L':Own} {Φ Φ':List Pers}
theorem A7r {α:Type} {c:α→List Value}:J8 Φ (sl c none []):=fun _ _=>rfl
theorem C4h (a b:List UInt8):(a == b)=decide (a=b):=by
 by_cases h:a=b<;>simp [h]
theorem C4u (a:List UInt8):(bs a).size=a.length:=rfl
theorem C7v {o:Oper} {T U:TypeId} {x y:Operand} {a b:List UInt8} (f:o.op=.binOp .eql T x y U) (d:ev E x=some (.string (bs a))) (e:ev E y=some (.string (bs b))):H9 P X o E L Φ (.bool (decide (a=b))) :=
 .of_run fun g w c _=>by
  simp [execOp,f,C3 c d,C3 c e,eqGuard,binOp,Op.stringOp,C4h]
theorem A1e {o:Oper} {T U:TypeId} {x y:Operand} {a b:List UInt8} (f:o.op=.binOp .neq T x y U) (d:ev E x=some (.string (bs a))) (e:ev E y=some (.string (bs b))):H9 P X o E L Φ (.bool (!decide (a=b))) :=
 .of_run fun g w c _=>by
  simp [execOp,f,C3 c d,C3 c e,eqGuard,binOp,Op.stringOp,C4h]
theorem C6o (a b:List UInt8):bs a++bs b=bs (a++b):=by
 apply ByteArray.ext;simp [bs]
theorem C6i {o:Oper} {T U:TypeId} {x y:Operand} {a b:List UInt8} (g:o.op=.binOp .add T x y U) (e:ev E x=some (.string (bs a))) (f:ev E y=some (.string (bs b))) (h:a.length+b.length≤9223372036854775807):H9 P X o E L Φ (.string (bs (a++b))) :=
 .of_run fun i w c _=>by
  have d:¬ ((((bs a).size+(bs b).size:Nat):Int) > IntKind.i64.max):=by
   rw [C4u,C4u];show ¬ ((_:Int) > 9223372036854775807);omega
  simp only [execOp,g,C3 c e,C3 c f,eqGuard,binOp,Op.stringOp,if_neg d,C6o]
  rfl
theorem D1j (s:List UInt8) (k:Nat) (h:k<s.length):(bs s)[k]?=some (s.getD k 0):=by
 have:k<(bs s).size:=h
 rw [getElem?_pos (bs s) k this]
 simp only [bs,ByteArray.getElem_eq_getElem_data]
 simp [List.getD,h]
theorem C2g {o:Oper} {T:TypeId} {x y:Operand} {s:List UInt8} {m:Int} (g:P.underlying T=some .string) (f:o.op=.index T x y) (c:ev E x=some (.string (bs s))) (e:ev E y=some (.int .i64 m)) (k:Nat) (b:m=k) (d:k<s.length) :
  H9 P X o E L Φ (.int .u8 ((s.getD k 0).toNat:Int)):=.of_run fun i w a _=>by
 subst b
 have h:(0:Int)≤k:=by omega
 simp [execOp,f,C3 a c,C3 a e,Instr.index,asIntOf,run_underlying g,D1j s k d]
theorem getD_some {α:Type} {xs:List α} {k:Nat} {v d:α} (h:xs[k]?=some v):xs.getD k d=v:=by simp [List.getD,h]
theorem Y2 {α:Type} {rs:List Slc} {xss:List (List α)} (a:E3 rs xss) {k:Nat} (h:k<rs.length) {d:Slc}:(Value.slice (rs.getD k d).q (rs.getD k d).n (rs.getD k d).k)=.slice (rs.getD k d).q (xss.getD k []).length (rs.getD k d).k:=by
 have c:=gd d h
 have b:xss[k]?=some (xss.getD k []):=gd [] (by have:=a.1;omega)
 rw [(a.2 k _ _ c b).1]
theorem U7 {α:Type} {rs:List Slc} {xss:List (List α)} (a:E3 rs xss) {k:Nat} (h:k<rs.length) {d:Slc}:(xss.getD k []).length≤(rs.getD k d).k∧(xss.getD k []).length≤9223372036854775807:=by
 have c:=gd d h
 have b:xss[k]?=some (xss.getD k []):=gd [] (by have:=a.1;omega)
 have:=a.2 k _ _ c b
 omega
theorem V2 {α:Type} {c:α→List Value} {rs:List Slc} {xss:List (List α)} (a:E3 rs xss) (j:Nat) (b:Φ[j]?=some (D3 c rs xss)) {k:Nat} (h:k<rs.length) {d:Slc}:J8 Φ (sl c (rs.getD k d).q (xss.getD k [])) :=
 C9e j b (gd d h) (gd [] (by have:=a.1;omega))
theorem B7n {o:Oper} {T e sz len:Nat} {agg:Bool} {x y:Operand} {a:Addr} {m:Int} (l:P.underlying T=some (.array len e)) (g:Ty P e sz agg) (d:o.op=.indexAddr T x y)
  (h:ev E x=some (.pointer (some a))) (j:ev E y=some (.int .i64 m)) (k:Nat) (c:m=k) (i:k<len):H9 P X o E L Φ (.pointer (some (a.add (k * sz)))):=.of_run fun n w b _=>by
 subst c
 have f:(0:Int)≤k∧(k:Int)<len:=by omega
 simp [execOp,d,C3 b h,C3 b j,Instr.indexAt,asIntOf,run_underlying l,Instr.sureAddr,g.size,f,Nat.not_le.2 i]
def A1i (q:Option Addr) (l sz m:Nat):Option Addr:=if m=l then q else q.map (·.add (l * sz))
def SB (E:Env) (o:Option Operand) (d v:Nat):Prop:=match o with | none=>v=d | some x=>∃ m,ev E x=some (.int .i64 m)∧m=(v:Int)
theorem Q9 {d:Nat}:SB E none d d:=rfl
theorem P2 {x:Operand} {m:Int} {d v:Nat} (h:ev E x=some (.int .i64 m)) (a:m=v):SB E (some x) d v:=⟨m,h,a⟩
theorem A0m {a:Act} (g:Has a E) {x:Operand} {d v y:Nat} (h:SB E (some x) d v) (i:v≤y) (b:BoundsCode) (w:World):(Instr.sliceBound (a.eval x) y b).run P w=.ok v w:=by
 obtain ⟨m,f,e⟩:=h
 subst e
 have c:(0:Int)≤v∧(v:Int)≤y:=by omega
 simp [Instr.sliceBound,C3 g f,asIntOf,c]
theorem A2g {o:Oper} {T e sz:Nat} {x:Operand} {f c g:Option Operand} {q:Option Addr} {len cap:Nat} (hT:SlTy P T e sz) (ho:o.op=.slice T x f c g) (hx:ev E x=some (.slice q len cap)) (l h m:Nat) (d:SB E f 0 l) (i:SB E c len h) (k:SB E g cap m)
  (p:l≤h) (j:h≤m) (v:m≤cap) {n':Nat} (hn:n'=h - l) (u:(g.isSome&&!c.isSome)=false):H9 P X o E L Φ (.slice (A1i q l sz m) n' (m - l)):=.of_run fun s w b _=>by
 subst hn
 have t:(Instr.sliceBounds true len cap (f.map s.eval) (c.map s.eval) (g.map s.eval)).run P w=.ok (l,h,m) w:=by
  unfold Instr.sliceBounds
  cases g with
  | none =>
   have r:m=cap:=k
   subst r
   cases c with
   | none =>
    have n:h=len:=i
    subst n
    cases f with
    | none=>have a:l=0:=d;subst a;simp
    | some z=>simp [A0m b d p]
   | some y =>
    cases f with
    | none=>have a:l=0:=d;subst a;simp [A0m b i j]
    | some z=>simp [A0m b d p,A0m b i j]
  | some z =>
   cases c with
   | none=>simp at u
   | some y =>
    cases f with
    | none=>have a:l=0:=d;subst a;simp [A0m b i j,A0m b k v]
    | some z=>simp [A0m b d p,A0m b i j,A0m b k v]
 simp only [execOp,ho,Sem.run_bind,C3 b hx,Instr.sliceAt,Instr.slice,run_underlying hT.ty,Result.andThen_ok,t,hT.run,A1i]
 rfl
theorem D3a (q:Option Addr) (sz m:Nat):A1i q 0 sz m=q:=by
 unfold A1i;split
 ·rfl
 ·cases q<;>simp [Addr.add]
theorem A9a {o:Oper} {T e sz:Nat} {x:Operand} {c b:Option Operand} {q:Option Addr} {a cap:Nat} (n:SlTy P T e sz) (i:o.op=.slice T x none c b) (l:ev E x=some (.slice q a cap)) (h m:Nat) (k:SB E c a h) (f:SB E b cap m)
  (g:h≤m) (j:m≤cap) {n':Nat} (p:n'=h) (d:(b.isSome&&!c.isSome)=false):H9 P X o E L Φ (.slice q n' m):=by
 have:=A2g (L:=L) (Φ:=Φ) (X:=X) n i l 0 h m Q9 k f (Nat.zero_le _) g j (n':=n') opx d
 rwa [D3a] at this
theorem C3q {α:Type} {c:α→List Value} {sz:Nat} {q:Option Addr} {xs:List α} (h:J8 Φ (sl c q xs)) (l k m:Nat) (i:∀ x,(c x).length=sz) {ys:List α} (s:ys=(xs.drop l).take (k - l)) (n:l≤xs.length) (u:k≤m):J8 Φ (sl c (A1i q l sz m) ys):=fun p g=>by
 subst s
 have:=h p g
 unfold A1i
 split
 ·rename_i e
  subst e
  rw [show k - m=0 by omega,List.take_zero]
  cases q with
  | none=>rfl
  | some a=>exact .inl rfl
 ·cases q with
  | none=>have e:xs=[]:=this;subst e;simp [sl]
  | some a =>
   obtain ⟨b,of,t⟩:=a
   obtain f | ⟨h0,cc,T,fr,h3,h4⟩:=this
   ·exact .inl (List.flatMap_eq_nil_iff.2 fun x o=>List.flatMap_eq_nil_iff.1 f x (List.mem_of_mem_drop (List.mem_of_mem_take o)))
   simp only at h0 h3 h4
   subst h0
   simp only [Option.map_some,S5]
   refine .inr ⟨rfl,cc,T,fr,h3,fun j v d=>?_⟩
   have e:xs.flatMap c=(xs.take l).flatMap c++((((xs.drop l).take (k - l)).flatMap c)++((xs.drop l).drop (k - l)).flatMap c):=by
    rw [← List.flatMap_append,← List.flatMap_append,List.take_append_drop,List.take_append_drop]
   have r:((xs.take l).flatMap c).length=l * sz:=by rw [C9 i,List.length_take,Nat.min_eq_left n]
   simp only
   rw [Nat.add_assoc]
   refine h4 _ _ ?_
   rw [e,List.getElem?_append_right opx,r,Nat.add_sub_cancel_left,List.getElem?_append_left (List.getElem?_eq_some_iff.1 d).1]
   exact d
theorem B1y {o:Oper} {c:Call} {T e sz b:Nat} {x y:Operand} {α:Type} {f:α→List Value} {r:VR} {xs ys:List α} {a:Addr} {m cc:Nat} {pre post:Own} (hT:ApTy P T e sz b) (t:∀ x,(f x).length=sz) (i:∀ x,(f x).all (·.oneCell')=true)
  (u:o.op=.call c) (q:c.callee=.builtin .append) (h:c.args=#[x,y]) (k:c.argTypes=#[T,T]) (w:ev E x=some (vv r xs.length)) (z:ev E y=some (.slice (some a) m cc)) (_h:True=True) (l:m=ys.length) (v:L=pre++(vo f e r xs++post))
  (s:J8 Φ (sl f (some a) ys)) (j:VOk sz xs.length r) (p:(xs.length+ys.length) * b≤140737488355328) (g:xs.length+ys.length≤9223372036854775807) :
  Tri P n X o E L Φ {d:VR // VOk sz (xs++ys).length d} (fun d=>vv d.1 (xs++ys).length) (fun d=>pre++(vo f e d.1 (xs++ys)++post)) (fun _=>Φ):=by
 rw [List.length_append]
 exact C3v hT t i u q h k w z l v s j p g
theorem C1d {w:World} {a:Nat} {T ty e:TypeId} {i:TypeInfo} {size:Nat} (h:P.underlying T=some (.slice e)) (f:P.info? e=some i)
  {v:Value} {n:Nat} {xs:List Value} (b:w.ownsRow a e size v n xs) (c:Nat):(Builtin.append_ #[T,T] ty #[v,.slice none 0 c]).run P w=.ok v w:=by
 rcases b.2 with ⟨rfl,rfl⟩ | ⟨g,cap,cur,rfl,_,_,d,_⟩
 ·simp [Builtin.append_,run_underlying h,sizeOf,typeInfo,f,Builtin.lenOf,Builtin.firstCells]
 ·simp [Builtin.append_,run_underlying h,sizeOf,typeInfo,f,Builtin.lenOf,Builtin.firstCells,d,storeCells]
theorem C9t {T e sz g:Nat} (h:ApTy P T e sz g) {α:Type} {f:α→List Value} (d:∀ x,(f x).length=sz) {r:VR} {xs:List α} {pre post:Own} {w:World} (l:StW X (pre++(vo f e r xs++post)) Φ w) (a:VOk sz xs.length r) :
  w.ownsRow 0 e sz (vv r xs.length) xs.length (xs.flatMap f):=by
 obtain ⟨p,i⟩:=l
 refine ⟨C9 d xs,?_⟩
 unfold VOk at a
 split at a
 ·rename_i c
  refine .inl ⟨?_,a.1⟩
  unfold vv va
  rw [c,a.1,a.2]
 ·rename_i b c
  refine .inr ⟨b,r.k,(xs.flatMap f++r.j).toArray,?_,Nat.zero_le _,?_,a.2.1,a.2.2,?_,?_⟩
  ·unfold vv va;rw [c]
  ·have:=i.own.1 (bx b (xs.flatMap f++r.j) e) (List.mem_append_right _ (List.mem_append_left _ (by unfold vo;rw [c];simp)))
   exact this.1
  ·simp only [List.size_toArray,List.length_append,C9 d];exact a.1
  ·rw [← C9 d xs];simp
theorem B1p {o:Oper} {c:Call} {T e sz h:Nat} {x y:Operand} {α:Type} {f:α→List Value} {r:VR} {xs ys:List α} {q:Option Addr} {m cc:Nat} {pre post:Own} (k:ApTy P T e sz h) (hf:∀ x,(f x).length=sz) (a0:∀ x,(f x).all (·.oneCell')=true)
  (z:o.op=.call c) (hc:c.callee=.builtin .append) (j:c.args=#[x,y]) (g:c.argTypes=#[T,T]) (hx:ev E x=some (vv r xs.length)) (hy:ev E y=some (.slice q m cc)) (s:m=ys.length) (hL:L=pre++(vo f e r xs++post))
  (hq:J8 Φ (sl f q ys)) (b:VOk sz xs.length r) (hb:(xs.length+ys.length) * h≤140737488355328) (u:xs.length+ys.length≤9223372036854775807) :
  Tri P n X o E L Φ {d:VR // VOk sz (xs++ys).length d} (fun d=>vv d.1 (xs++ys).length) (fun d=>pre++(vo f e d.1 (xs++ys)++post)) (fun _=>Φ):=by
 cases q with
 | some a=>exact B1y k hf a0 z hc j g hx hy rfl s hL hq b hb u
 | none =>
  intro ac w K Q l hk
  obtain ⟨p,hp⟩:=l.world
  have v:ys=[]:=hq p hp.facts
  subst v
  simp only [List.length_nil] at s
  subst s
  have t:=l.world
  rw [hL] at t
  obtain ⟨i,hi,_⟩:=Option.map_eq_some_iff.1 k.info
  refine A2c (by rw [z];rfl) ?_
  unfold Oper.wp
  rw [show (execOp ac.eval o).run P w=.ok (.value (vv r xs.length)) w by
   simp [execOp,z,resolve,hc,j,g,C3 l.has hx,C3 l.has hy,invoke,builtin,C1d (P:=P) (ty:=o.type) k.ty hi (C9t k hf t b) cc]]
  have:=hk ⟨r,by simpa using b⟩ w (by simpa using t)
  exact (by simpa using this:K (ac.put o.dst (vv r xs.length)) w)
theorem VOk.cap {sz n:Nat} {r:VR} (h:VOk sz n r):n≤r.k:=by
 unfold VOk at h
 split at h
 ·omega
 ·exact h.2.1
theorem VOk.le {sz n:Nat} {r:VR} (h:VOk sz n r):n≤9223372036854775807:=by
 unfold VOk at h
 split at h
 ·omega
 ·exact Nat.le_trans h.2.1 h.2.2
theorem I4 {o:Oper} {c:Call} {f:Operand} {k:FuncId} {first cap:Array Value} {g args:List Value} {L0 L2:Own} {Φ0:List Pers} {α:Type} {val:α→Value} {L1:α→Own} {Φ1:α→List Pers}
  (d:Con P k args L0 Φ0 α val L1 Φ1) (p:o.op=.call c) (m:c.callee=.value f) (q:ev E f=some (.func (.func k) first cap)) (b:c.args.toList.mapM (ev E)=some g) (l:(first++g.toArray++cap).toList=args)
  (hΦ:A5 Φ Φ0) (r:L.Perm (L0++L2)) (L':α→Own) (e:∀ x,(L1 x++L2).Perm (L' x)):Tri P n X o E L Φ α val L' (fun x=>Φ1 x++Φ):=by
 intro a w K Q i j
 exact C2c d p m q b l hΦ r a w K Q i fun x w' s=>j x w' (s.perm (e x))
theorem C4o (s:List UInt8) (j:Nat) (a:j<s.length):(s.flatMap cU8)[j]?=some (.int .u8 (s[j].toNat:Int)):=by
 have:=A5q (c:=cU8) (sz:=1) (fun _=>rfl) (xs:=s) (k:=j) (v:=s[j]) (by simp [a]) 0 _ rfl
 simpa using this
theorem B5l {o:Oper} {S T e:TypeId} {x:Operand} {q:Option Addr} {n' k:Nat} {s:List UInt8} (l:P.underlying T=some .string) (h:P.underlying S=some (.slice e)) (f:o.op=.convert S T x) (i:ev E x=some (.slice q n' k)) (r:J8 Φ (sl cU8 q s)) (m:n'=s.length) (g:(P.underlying e)=some (.int .u8)):H9 P X o E L Φ (.string (bs s)) :=
 .of_run fun t w c ⟨p,d⟩=>by
  subst m
  have b:=r p d.facts
  cases q with
  | none =>
   have b:s=[]:=b
   subst b
   simp [execOp,f,C3 c i,convert,run_underlying l,run_underlying h,run_underlying g,Conv.bytesToString]
   rfl
  | some a =>
   have b:A1m p a (s.flatMap cU8):=b
   have:=run_convert_bytes_back (P:=P) w S T e a k s h g l fun j n=>b.cell d.sub (C4o s j n)
   simp [execOp,f,C3 c i,this]
theorem U2 {α:Type} {c:α→List Value}:J8 Φ (D3 c [] []):=fun p _ i r xs h=>by simp at h
theorem A4p {α:Type} {c:α→List Value} {r:Slc} {xs:List α} {rs:List Slc} {xss:List (List α)} (g:J8 Φ (sl c r.q xs)) (e:J8 Φ (D3 c rs xss)):J8 Φ (D3 c (r::rs) (xs::xss)):=fun p d i f b hr a=>by
 cases i with
 | zero=>simp only [List.getElem?_cons_zero,Option.some.injEq] at hr a;subst hr a;exact g p d
 | succ i=>simp only [List.getElem?_cons_succ] at hr a;exact e p d i f b hr a
theorem E3.none {α:Type}:E3 [] ([]:List (List α)):=⟨rfl,fun i r xs h=>by simp at h⟩
theorem E3.cons {α:Type} {r:Slc} {xs:List α} {rs:List Slc} {xss:List (List α)} (e:r.n=xs.length∧r.n≤r.k∧xs.length≤9223372036854775807) (c:E3 rs xss):E3 (r::rs) (xs::xss):=⟨by simp [c.1],fun i d b hr a=>by
 cases i with
 | zero=>simp only [List.getElem?_cons_zero,Option.some.injEq] at hr a;subst hr a;exact e
 | succ i=>simp only [List.getElem?_cons_succ] at hr a;exact c.2 i d b hr a⟩
end
end Go.Fen
set_option linter.unusedVariables false
set_option linter.unusedSimpArgs false
namespace Go.Fen
open Go Go.RowKit
section
variable {P:Program} {n:Nat} {X:Cx} {K:Act→World→Prop} {Q:Exit→Act→World→Prop} {E E':Env} {L L':Own} {Φ Φ':List Pers}
theorem A3h {o:Oper} {T:TypeId} (c:o.op=.makeMap T none):Tri P n X o E L Φ Nat (fun b=>.map (some b)) (fun b=>(b,.map #[] 0)::L) (fun _=>Φ):=by
 intro a w K Q d e
 refine A2c (by rw [c];rfl) ?_
 unfold Oper.wp
 rw [show (execOp a.eval o).run P w=.ok (.value (.map (some w.heap.size))) (w.alloc (.map #[] 0)) by
  simp only [execOp,c,Sem.run_bind,Option.map_none,run_makeMap];rfl]
 exact e w.heap.size _ (d.world.alloc _)
structure MapTy (P:Program) (T k e:Nat) (kd:TypeDesc):Prop where
 ty:P.underlying T=some (.map k e)
 key:P.underlying k=some kd
 plain:(match kd with | .int _ | .string | .bool=>true | _=>false)=true
theorem A7o {T k e:Nat} {a:TypeDesc} (b:MapTy P T k e a) (c:Bool) (v:Value) (w:World):(Instr.checkKey c 10000 k v).run P w=.ok () w:=by
 have d:=b.plain
 unfold Instr.checkKey
 rw [Sem.run_bind,run_underlying b.key]
 cases a<;>simp_all
theorem A8t {T k e:Nat} {a:TypeDesc} (b:MapTy P T k e a) {v:Value} {es:List MapEntry} {r:Option (Nat×Value)} (h:Instr.findNow a v es 0=some r) (w:World):(Instr.findKey k v es).run P w=.ok r w:=by
 unfold Instr.findKey
 rw [Sem.run_bind,run_underlying b.key]
 simp [h]
theorem D0x {w:World} {r:Nat} {es:Array MapEntry} {a:Nat} (h:w.heap[r]?=some (.map es a)):(getObj r).run P w=.ok (.map es a) w:=by simp [getObj,Sem.run,h]
theorem D4h {w:World} {r:Nat} {es:Array MapEntry} {a:Nat} (o:Obj) (h:w.heap[r]?=some (.map es a)):(setObj r o).run P w=.ok () {w with heap:=w.heap.setIfInBounds r o}:=by simp [setObj,Sem.run,h]
theorem C0l {w:World} (a:StW X L Φ w) {i b:Nat} {o:Obj} (c:L[i]?=some (b,o)):w.heap[b]?=some o:=by
 obtain ⟨p,d⟩:=a
 exact B6k d c
theorem D7 {o:Oper} {T k e:Nat} {t:TypeDesc} {m l f:Operand} {b:Nat} {h v:Value} {es es':Array MapEntry} {c:Nat} (s:MapTy P T k e t) (d:o.op=.insert T m l f∨o.op=.mapUpdate T m l f) (x:ev E m=some (.map (some b))) (y:ev E l=some h) (hv:ev E f=some v)
  (i:Nat) (u:L[i]?=some (b,.map es c)) (hf:Instr.findNow t h es.toList 0=some none) (he:es.push ⟨h,v,c⟩=es') :
  Tri P n X o E L Φ Unit (fun _=>undef) (fun _=>L.set i (b,.map es' (c+1))) (fun _=>Φ):=by
 intro a w K Q g r
 have p:=C0l g.world u
 subst he
 have hr:(execOp a.eval o).run P w=.ok .skip {w with heap:=w.heap.setIfInBounds b (.map (es.push ⟨h,v,c⟩) (c+1))}:=by
  rcases d with d | d <;>
  simp [execOp,d,C3 g.has x,C3 g.has y,C3 g.has hv,Instr.mapUpdate,run_underlying s.ty,D0x p,D4h _ p,A7o s,A8t s hf]
 have q:b<w.heap.size:=(Array.getElem?_eq_some_iff.1 p).1
 refine A2c (by rcases d with d | d<;>rw [d]<;>rfl) ?_
 unfold Oper.wp
 rw [hr]
 refine r () _ (g.world.set u ?_ (fun j z=>?_) rfl rfl rfl oom)
 ·simp [q]
 ·simp [Array.getElem?_setIfInBounds,Ne.symm z]
theorem O7 {o:Oper} {T k e:Nat} {f:TypeDesc} {m d:Operand} {b j:Nat} {h v:Value} {es:Array MapEntry} {a:Nat} (c:MapTy P T k e f) (r:o.op=.lookup T m d true) (l:ev E m=some (.map (some b))) (p:ev E d=some h)
  (i:Nat) (q:L[i]?=some (b,.map es a)) (s:Instr.findNow f h es.toList 0=some (some (j,v))):H9 P X o E L Φ (.tuple #[v,.bool true]):=.of_run fun u w g t=>by
 have n:=C0l t q
 simp [execOp,r,C3 g l,C3 g p,Instr.lookup,run_underlying c.ty,D0x n,A7o c,A8t c s]
theorem C5s {o:Oper} {T:TypeId} {d:TypeDesc} {x:Operand} {v:Value} (c:P.underlying T=some d) (e:(match d with | .interface _=>false | _=>true)=true) (g:o.op=.makeInterface T x) (b:ev E x=some v):H9 P X o E L Φ (.iface T v):=.of_run fun f w a _=>by
 cases d<;>simp_all [execOp,Instr.makeInterface,C3 a b,run_underlying c]
def D0q {ρ:Type} (pv:Value) (val:ρ→Value):Option ρ→Ending
 | some r=>.returned (val r)
 | none=>.panicked [{v:=pv,recovered:=false}]
def B7x (P:Program) (f:FuncId) (args:List Value) (L0:Own) (Φ0:List Pers) {ρ:Type} (pv:Value) (R:Option ρ) (val:ρ→Value):Prop :=
 HasBody P f∧∀ (w:World) (h:Hp),(∀ q ∈ Φ0,q.p h)→h.sub w→Z4 L0 h w →
  Calls P f args.toArray w fun e w'=>StW (cx w h (L0.map Prod.fst)) [] [] w'∧e=D0q pv val R
def C5f (P:Program) (X:Cx) (a:Func) {ρ:Type} (pv:Value) (R:Option ρ) (val:ρ→Value):Exit→Act→World→Prop :=
 bodyPostM (FW none) 0 P a fun e w'=>StW X [] [] w'∧e=D0q pv val R
theorem A6s {f:FuncId} {g:Func} {c:Code} {args:List Value} {L0:Own} {Φ0:List Pers} {ρ:Type} {pv:Value} {R:Option ρ} {val:ρ→Value}
  (l : P.funcs[f]? = some g) (i : g.body = some c) (j : (g.name == "runtime.NumGoroutine") = false) (k : g.ntmps = n) (a : Nat.ble args.length n = true) (E0 : Env) (hE : K7 ((List.range args.length).zip args) E0)
  (h:∀ X:Cx,X.M=L0.map Prod.fst→X.rho=none→X.D=[]→J P n X c (C5f P X g pv R val) E0 L0 Φ0):B7x P f args L0 Φ0 pv R val:=by
 refine ⟨⟨by simp [l,i,j]⟩,fun w p q o r=>?_⟩
 have m:args.length≤n:=Nat.le_of_ble_eq_true a
 refine (callsIn_wide (n:=0)).1 (callsIn_of_wp_marks (F:=Fence.wide) l i trivial (h (cx w p (L0.map Prod.fst)) rfl rfl rfl _ w ⟨?_,rfl,?_,p,⟨q,o,Hp.le_refl p,fun b i=>.inl i,r,fun e t=>.inl (List.mem_map_of_mem t),KeptBut.refl _ w,fun d s=>by cases s⟩⟩))
 ·simp [k];omega
 ·rw [k];exact B8r a hE
theorem B8z {X':Cx} {a:Act} {w:World} {i:Func} {ρ:Type} {pv:Value} {R:Option ρ} {val:ρ→Value} {v:Value} {r:ρ} (hX:X'=X.wd X'.D) (f:X=X.wd []) (b:X.rho=none) (g:(X'.D.map Prod.fst).Nodup∧∀ d ∈ X'.D,d.2=.deferred (some [])) (hr:Res P n X i E L Φ v) (hR:R=some r) (k:val r=v)
  (h:St n X' E L Φ a w):LeavesInM (FW none) 0 P i a.tmps (fun e w'=>StW X [] [] w'∧e=D0q pv val R) a.defers .returning w:=by
 have j:X'.marks=X'.D.map (C0m ·.1):=by rw [hX];unfold Cx.marks Cx.wd;simp only [b]
 rw [h.defers,j]
 refine A4l (X:=X) (L:=L) (Φ:=Φ) X'.D g.1 g.2 w (hX▸h.world) fun w' c=>⟨v,?_,?_,by rw [hR,← k];rfl⟩
 ·rw [f] at hr
  exact hr {a with defers:=[]} w' ⟨h.size,by unfold Cx.marks Cx.wd;simp only [b];rfl,h.has,c⟩
 ·rw [f];exact (c.sub (List.nil_sublist _)).foll A5.nil
theorem B8y {X':Cx} {e:Func} {ρ:Type} {pv:Value} {R:Option ρ} {val:ρ→Value} {v:Value} {r:ρ} (hX:X'=X.wd X'.D) (b:X.rho=none∧X.D=[]) (c:(X'.D.map Prod.fst).Nodup∧∀ d ∈ X'.D,d.2=.deferred (some [])) (hr:Res P n X e E L Φ v) (hR:R=some r) (i:val r=v) :
  JQ n X' (C5f P X e pv R val .ret) E L Φ:=fun a w h=>B8z hX (by obtain ⟨k,j,M,r,D⟩:=X;obtain ⟨g,f⟩:=b;simp only at g f;subst g f;rfl) b.1 c hr hR i h
theorem A7k {X':Cx} {e:Func} {ρ:Type} {pv:Value} {R:Option ρ} {val:ρ→Value} {v:Value} {r:ρ} (hX:X'=X.wd X'.D) (b:X.rho=none∧X.D=[]) (c:(X'.D.map Prod.fst).Nodup∧∀ d ∈ X'.D,d.2=.deferred (some [])) (hr:Res P n X e E L Φ v) (hR:R=some r) (i:val r=v) :
  JQ n X' (C5f P X e pv R val .normal) E L Φ:=fun a w h=>B8z hX (by obtain ⟨k,j,M,r,D⟩:=X;obtain ⟨g,f⟩:=b;simp only at g f;subst g f;rfl) b.1 c hr hR i h
theorem X7 {d:Func} {ρ:Type} {pv:Value} {R:Option ρ} {val:ρ→Value} (b:X.rho=none∧X.D=[]) (hR:R=none) :
  JQ n X (C5f P X d pv R val (.panic [{v:=pv,recovered:=false}])) E L Φ:=fun a w c=>by
 have e:a.defers=[]:=by rw [c.defers];unfold Cx.marks;rw [b.1,b.2];rfl
 show LeavesInM (FW none) 0 P d a.tmps _ a.defers _ w
 rw [e,hR]
 exact ⟨(c.world.sub (List.nil_sublist _)).foll A5.nil,rfl⟩
theorem C6x {b:Array Oper} {i m:Nat} {o:Oper} {x:Operand} {T:TypeId} {v:Value} (g:B1m n b i E=some o) (f:o.op=.panic x) (l:ev E x=some (.iface T v)) (h:JQ n X (Q (.panic [{v:=.iface T v,recovered:=false}])) E L Φ) :
  JI P n X b i (m+1) K Q E L Φ:=by
 intro a w d
 obtain ⟨k,j,_⟩:=N9 g
 rw [A4o k,List.take_succ_cons]
 refine wpListIn_step fun K' p=>?_
 rw [if_pos (V4 d.has j)]
 refine ⟨fun _ _=>trivial,?_⟩
 rw [Oper.semAt_eq _ _ _ (fun c e=>by rw [f] at e;cases e)]
 rw [show (execOp a.eval o).run P w=.halt (.panic (.iface T v)) w by simp [execOp,f,C3 d.has l,Instr.panic,goPanic]]
 exact h a w d
theorem A4t {d:Array Oper} {i m:Nat} {o:Oper} {c:Call} {y:Operand} {k:FuncId} {first cap:Array Value} {vs args:List Value} {L0 L2:Own} {Φ0:List Pers} {ρ:Type} {pv:Value} {R:Option ρ} {val:ρ→Value}
  (b:B7x P k args L0 Φ0 pv R val) (u:B1m n d i E=some o) (z:o.op=.call c) (hc:c.callee=.value y) (hf:ev E y=some (.func (.func k) first cap)) (f:c.args.toList.mapM (ev E)=some vs) (ha:(first++vs.toArray++cap).toList=args)
  (hΦ:A5 Φ Φ0) (x:L.Perm (L0++L2)) (h1:∀ r,R=some r→JI P n X d (i+1) m K Q (Env.put E o.dst (val r)) L2 Φ) (h2:R=none→JQ n X (Q (.panic [{v:=pv,recovered:=false}])) E L2 Φ):JI P n X d i (m+1) K Q E L Φ:=by
 intro a w g
 obtain ⟨e1,e2,e3⟩:=N9 u
 rw [A4o e1,List.take_succ_cons]
 refine wpListIn_step fun K' hK=>?_
 rw [if_pos (V4 g.has e2)]
 obtain ⟨p,l⟩:=g.world
 have hr:=B6e g.has z hc hf f b.1 w
 have s:Z4 (L0++L2) p w:=⟨fun e j=>l.own.1 e (x.symm.subset j),(x.map Prod.fst).nodup_iff.1 l.own.2⟩
 have:=b.2 w p (hΦ p l.facts) l.sub (s.sub (List.sublist_append_left _ _))
 rw [← ha,Array.toArray_toList] at this
 refine ⟨fun _ _=>trivial,?_⟩
 rw [Oper.semAt_eq _ _ _ (fun c q=>by rw [z] at q;cases q),hr]
 refine ⟨A6m,(B2k this).mono fun e w' ⟨hw,j⟩=>?_⟩
 have t:StW X L2 Φ w':=by
  have:=StW.call l x hw
  simpa using this
 cases hR:R with
 | some r =>
  rw [hR] at j
  subst j
  exact hK _ _ (h1 r hR _ _ (g.put e3 (val r) t))
 | none =>
  rw [hR] at j
  subst j
  exact h2 hR a w' ⟨g.size,g.defers,g.has,t⟩
theorem B6r {ρ σ:Type} {o:Option ρ} {k:ρ→Option σ} {R:Option σ} {r:ρ} (h:Option.bind o k=R) (hr:o=some r):k r=R:=by subst hr;exact h
theorem B5v {ρ σ:Type} {o:Option ρ} {k:ρ→Option σ} {R:Option σ} (h:Option.bind o k=R) (hr:o=none):none=R:=by subst hr;exact h
theorem A0f {o:Oper} {T e sz a b:Nat} {agg:Bool} {x y:Operand} {m:Int} (j:P.underlying T=some (.array a e)) (f:Ty P e sz agg) (h:o.op=.indexAddr T x y)
  (g:ev E x=some (.pointer (some ⟨b,0,none⟩))) (c:ev E y=some (.int .i64 m)) (k:Nat) (d:m=k) (i:k<a):H9 P X o E L Φ (.pointer (some ⟨b,k * sz,none⟩)):=by
 have:=B7n (L:=L) (Φ:=Φ) (X:=X) j f h g c k d i
 rwa [S5,Nat.zero_add] at this
abbrev A0u:Value:=.iface 235 (.agg #[])
theorem B5m {α:Type} {c:α→List Value} {sz:Nat} {q:Option Addr} {xs:List α} (h:J8 Φ (sl c q xs)) (l m:Nat) (d:∀ x,(c x).length=sz) (b:l≤xs.length) (a:xs.length≤m):J8 Φ (sl c (A1i q l sz m) (xs.drop l)) :=
 C3q h l xs.length m d (by rw [List.take_of_length_le oom]) b a
theorem C7s {o:Oper} {c:Call} {T e sz s:Nat} {x y:Operand} {α:Type} {f:α→List Value} {xs ys:List α} {qx qy:Option Addr} {n1 k1 m cc:Nat} (hT:ApTy P T e sz s) (hf:∀ x,(f x).length=sz) (aq:∀ x,(f x).all (·.oneCell')=true)
  (ho:o.op=.call c) (hc:c.callee=.builtin .append) (a3:c.args=#[x,y]) (a1:c.argTypes=#[T,T]) (hx:ev E x=some (.slice qx n1 k1)) (hy:ev E y=some (.slice qy m cc)) (ar:n1=xs.length) (ai:k1=xs.length) (hm:m=ys.length)
  (a6:J8 Φ (sl f qx xs)) (d:J8 Φ (sl f qy ys)) (ao:0<ys.length) (hb:(xs.length+ys.length) * s≤140737488355328) (a2:xs.length+ys.length≤9223372036854775807) :
  Tri P n X o E L Φ {r':VR // VOk sz (xs++ys).length r'} (fun r'=>vv r'.1 (xs++ys).length) (fun r'=>L++(vo f e r'.1 (xs++ys)++[])) (fun _=>Φ):=by
 subst ar ai hm
 cases qx with
 | none =>
  intro ac w K Q q hk
  obtain ⟨p,h⟩:=q.world
  have h0:xs=[]:=a6 p h.facts
  subst h0
  exact B1p (r:=VR.nil) (xs:=[]) (pre:=L) (post:=[]) hT hf aq ho hc a3 a1 hx hy rfl (by simp [vo,VR.nil]) d VOk.nil hb a2 ac w K Q q hk
 | some a =>
  intro ac w K Q q hk
  obtain ⟨p,h⟩:=q.world
  cases qy with
  | none=>have h0:ys=[]:=d p h.facts;subst h0;simp at ao
  | some a' =>
   have c1:A1m p a (xs.flatMap f):=a6 p h.facts
   have c2:A1m p a' (ys.flatMap f):=d p h.facts
   obtain ⟨i,hi,b⟩:=Option.map_eq_some_iff.1 hT.info
   simp only [Prod.mk.injEq] at b
   obtain ⟨h4,h5,h6⟩:=b
   obtain ⟨z,hz,h6⟩:=Option.map_eq_some_iff.1 h6
   have a8:0<sz:=by simpa [Nat.blt_eq] using hT.pos
   obtain ⟨v',w',a4,⟨ax,an⟩,v⟩:=run_append_arg_grows (P:=P) w T o.type e i z sz s hT.ty hi hz h4 h5 h6 a8 a xs.length xs.length (xs.flatMap f) (C9 hf xs) (fun j u hj=>c1.cell h.sub hj)
    a' ys.length cc (ys.flatMap f) (C9 hf ys) (fun j u hj=>c2.cell h.sub hj) opx a2 hb
   have ak:KeptBut (([]:Own).map Prod.fst) w w':=⟨v.os,v.tape,v.output,v.size,fun k hk _=>v.block k hk oom⟩
   refine A2c (by rw [ho];rfl) ?_
   unfold Oper.wp
   rw [show (execOp ac.eval o).run P w=.ok (.value v') w' by
    simp [execOp,ho,resolve,hc,a3,a1,C3 q.has hx,C3 q.has hy,invoke,builtin,a4]]
   rcases an with ⟨rfl,bb⟩ | ⟨g,cap,cur,rfl,ah,t,a7,a9,ae,l⟩
   ·omega
   ·have au:StW X (L++([bx g ((xs++ys).flatMap f++cur.toList.drop ((xs.length+ys.length) * sz)) e]++[])) Φ w':=by
     refine StW.turn (L0:=[]) (show StW X (L++([]++[])) Φ w by simpa using q.world) ak ?_ oom
     intro e' he
     obtain rfl:e'=_:=by simpa using he
     refine ⟨?_,.inr ah⟩
     simp only
     rw [t,← List.append_assoc,← l,List.take_append_drop]
    have:=hk ⟨⟨some g,cap,cur.toList.drop ((xs.length+ys.length) * sz)⟩,?_⟩ w' (by simpa [vo] using au)
    ·simp only [vv,va,List.length_append] at this
     exact this
    ·have h9:(xs.length+ys.length) * sz≤cap * sz:=Nat.mul_le_mul_right _ a7
     refine ⟨?_,by simpa using a7,a9⟩
     simp only [List.length_drop,Array.length_toList,ae,List.length_append]
     omega
theorem C0k (s:List UInt8):byteCells (bs s)=s.flatMap cU8:=by
 simp only [byteCells,bs,cU8]
 induction s with
 | nil=>rfl
 | cons x s ih =>
  simp only [List.flatMap_cons]
  rw [← ih]
  rfl
theorem C4a {w:World} {T ty e:TypeId} {i:TypeInfo} (f:P.underlying T=some (.slice e)) (d:P.info? e=some i) (q a:Option Addr) (m k:Nat) (b:m≤k) (c:Nat):(Builtin.append_ #[T,T] ty #[.slice q m k,.slice a 0 c]).run P w=.ok (.slice q m k) w:=by
 cases q<;>cases a<;>simp [Builtin.append_,run_underlying f,sizeOf,typeInfo,d,Builtin.lenOf,Builtin.firstCells,b,storeCells,loadCells,loadCellsFrom]
theorem C2t {o:Oper} {c:Call} {T e sz s:Nat} {x y:Operand} {α:Type} {f:α→List Value} {xs ys:List α} {b qy:Option Addr} {n1 k1 m cc:Nat} (hT:ApTy P T e sz s) (hf:∀ x,(f x).length=sz) (a7:∀ x,(f x).all (·.oneCell')=true)
  (ho:o.op=.call c) (hc:c.callee=.builtin .append) (u:c.args=#[x,y]) (g:c.argTypes=#[T,T]) (hx:ev E x=some (.slice b n1 k1)) (hy:ev E y=some (.slice qy m cc)) (v:n1=xs.length) (j:k1=xs.length) (hm:m=ys.length)
  (d:J8 Φ (sl f b xs)) (a1:J8 Φ (sl f qy ys)) (hb:(xs.length+ys.length) * s≤140737488355328) (a5:xs.length+ys.length≤9223372036854775807) :
  Tri P n X o E L Φ {t:Option Addr×Nat // (xs++ys).length≤t.2} (fun t=>.slice t.1.1 (xs++ys).length t.1.2) (fun _=>L) (fun t=>sl f t.1.1 (xs++ys)::Φ):=by
 by_cases hys:0<ys.length
 ·intro z w K Q h hk
  refine C7s hT hf a7 ho hc u g hx hy v j hm d a1 hys hb a5 z w K Q h fun r w' hw=>?_
  have:=hk ⟨(va r.1.q,r.1.k),r.2.cap⟩ w' (by have:=hw.sealed (pre:=L) (post:=[]) r.2;simpa using this)
  exact this
 ·have h0:ys=[]:=by cases ys with | nil=>rfl | cons a l=>simp at hys
  subst h0
  subst v j hm
  intro z w K Q h hk
  obtain ⟨i,hi,_⟩:=Option.map_eq_some_iff.1 hT.info
  refine A2c (by rw [ho];rfl) ?_
  unfold Oper.wp
  rw [show (execOp z.eval o).run P w=.ok (.value (.slice b xs.length xs.length)) w by
   simp [execOp,ho,resolve,hc,u,g,C3 h.has hx,C3 h.has hy,invoke,builtin,C4a (P:=P) (ty:=o.type) hT.ty hi b qy xs.length xs.length (Nat.le_refl _) cc]]
  have:=hk ⟨(b,xs.length),by simp⟩ w (by
   obtain ⟨p,hp⟩:=h.world
   simp only [List.append_nil]
   exact ⟨p,{hp with facts:=fun q hq=>by rcases List.mem_cons.1 hq with rfl | hq;exact d p hp.facts;exact hp.facts q hq}⟩)
  exact (by simpa using this:K (z.put o.dst (.slice b xs.length xs.length)) w)
theorem C1b {w:World} {T tx ty e:TypeId} {i:TypeInfo} (h:P.underlying T=some (.slice e)) (j:P.info? e=some i) {b sLen sCap m TT:Nat} {x:Value} {news:List Value} {cur:Array Value} (d:Src P i.size tx x m news w)
  (g:w.heap[b]?=some (.cells cur TT (0,0))) (a:sLen+m≤sCap) (f:sLen * i.size+news.length≤cur.size) :
  (Builtin.append_ #[T,tx] ty #[.slice (some ⟨b,0,none⟩) sLen sCap,x]).run P w=.ok (.slice (some ⟨b,0,none⟩) (sLen+m) sCap) (w.setRow b (cur.toList.take (sLen * i.size)++news++cur.toList.drop (sLen * i.size+news.length)).toArray):=by
 have c:=run_storeCells_at P b (sLen * i.size) TT news 0 cur w g (by simpa using f) d.one
 simp only [Nat.add_zero] at c
 rcases d.kind with ⟨e',hk⟩ | hk<;>simp [Builtin.append_,run_underlying h,run_underlying hk,sizeOf,typeInfo,j,d.len,a,d.cells,S5,c]
theorem C1t {o:Oper} {c:Call} {T U e:Nat} {x y:Operand} {r:VR} {xs s:List UInt8} {pre post:Own} (hT:ApTy P T e 1 1) (hz:(P.info? e).bind (·.zero)=some (.int .u8 0)) (hU:P.underlying U=some .string)
  (ho:o.op=.call c) (hc:c.callee=.builtin .append) (al:c.args=#[x,y]) (ah:c.argTypes=#[T,U]) (hx:ev E x=some (vv r xs.length)) (hy:ev E y=some (.string (bs s))) (hL:L=pre++(vo cU8 e r xs++post))
  (g:VOk 1 xs.length r) (hb:xs.length+s.length≤140737488355328) :
  Tri P n X o E L Φ {r':VR // VOk 1 (xs++s).length r'} (fun r'=>vv r'.1 (xs++s).length) (fun r'=>pre++(vo cU8 e r'.1 (xs++s)++post)) (fun _=>Φ):=by
 intro ac w K Q hs hk
 obtain ⟨i,hi,a0⟩:=Option.map_eq_some_iff.1 hT.info
 simp only [Prod.mk.injEq] at a0
 obtain ⟨h4,h5,h6⟩:=a0
 obtain ⟨i2,a9,af⟩:=Option.bind_eq_some_iff.1 hz
 obtain rfl:i=i2:=by rw [hi] at a9;exact Option.some.inj a9
 have f:=fun w'=>Src.ofString (P:=P) w' hU (bs s)
 rw [C0k] at f
 have hw:=hs.world
 rw [hL] at hw
 have b4:(bs s).size=s.length:=rfl
 refine A2c (by rw [ho];rfl) ?_
 unfold Oper.wp
 have d:∀ v w',(Builtin.append_ #[T,U] o.type #[vv r xs.length,.string (bs s)]).run P w=.ok v w'→(execOp ac.eval o).run P w=.ok (.value v) w':=fun v w' h=>by
  simp [execOp,ho,resolve,hc,al,ah,C3 hs.has hx,C3 hs.has hy,invoke,builtin,h]
 obtain ⟨q,k,j⟩:=r
 by_cases hroom:xs.length+s.length≤k
 ·cases q with
  | none =>
   have h0:xs.length=0∧k=0:=g
   have ar:s=[]:=List.eq_nil_of_length_eq_zero opx
   have a1:xs=[]:=List.eq_nil_of_length_eq_zero h0.1
   obtain ⟨_,am⟩:=h0
   subst ar a1 am
   have:=run_append_nothing (P:=P) w T U o.type e i hT.ty hi none 0 0 (Nat.le_refl _) (.string (bs [])) (by have:=f w;rw [h4];exact this)
   rw [d _ _ this]
   exact hk ⟨⟨none,0,j⟩,g⟩ w (by simpa using hw)
  | some b =>
   have a7:xs.length * 1+j.length=k * 1∧xs.length≤k∧k≤maxLen:=g
   obtain ⟨p,hp⟩:=hw
   have z:=(hp.own.1 (bx b (xs.flatMap cU8++j) e) (List.mem_append_right _ (List.mem_append_left _ (by simp [vo])))).1
   have a:∀ l:List UInt8,(l.flatMap cU8).length=l.length:=fun l=>by rw [C9 (sz:=1) (fun _=>rfl)];omega
   have:=C1b (P:=P) (w:=w) (T:=T) (tx:=U) (ty:=o.type) hT.ty hi (b:=b) (sLen:=xs.length) (sCap:=k) (m:=s.length) (TT:=e) (x:=.string (bs s)) (news:=s.flatMap cU8) (cur:=(xs.flatMap cU8++j).toArray) (by rw [h4];exact f w) z hroom (by rw [h4];simp [a];omega)
   rw [d _ _ this]
   have e1:(((xs.flatMap cU8++j).toArray.toList.take (xs.length * i.size)++s.flatMap cU8++(xs.flatMap cU8++j).toArray.toList.drop (xs.length * i.size+(s.flatMap cU8).length)).toArray)=(((xs++s).flatMap cU8)++j.drop s.length).toArray:=by
    rw [h4,Nat.mul_one,a]
    simp only [List.flatMap_append]
    rw [List.take_append_of_le_length (by rw [a];omega),List.take_of_length_le (by rw [a];omega),List.drop_append,a,List.drop_of_length_le (by rw [a];omega),List.nil_append,show xs.length+s.length - xs.length=s.length by omega]
   rw [e1]
   have a2:KeptBut (([bx b (xs.flatMap cU8++j) e]:Own).map Prod.fst) w (w.setRow b (((xs++s).flatMap cU8)++j.drop s.length).toArray):=⟨rfl,rfl,rfl,by simp,fun k' aq hm=>setRow_other w b k' _ (by rintro rfl;exact hm oom)⟩
   have a3:StW X (pre++([bx b ((xs++s).flatMap cU8++j.drop s.length) e]++post)) Φ (w.setRow b (((xs++s).flatMap cU8)++j.drop s.length).toArray):=by
    refine StW.turn (L0:=[bx b (xs.flatMap cU8++j) e]) ⟨p,hp⟩ a2 ?_ oom
    intro e' he
    obtain rfl:e'=_:=by simpa using he
    refine ⟨?_,.inl oom⟩
    have:=setRow_heap w b _ (((xs++s).flatMap cU8)++j.drop s.length).toArray e (0,0) z
    simpa using this
   have:=hk ⟨⟨some b,k,j.drop s.length⟩,?_⟩ _ a3
   ·simp only [vv,va,List.length_append] at this
    exact this
   ·refine ⟨?_,by simpa using hroom,a7.2.2⟩
    simp only [List.length_drop,List.length_append];omega
 ·have hg:k<xs.length+s.length:=by omega
  have b0:0<i.size:=by rw [h4];exact Nat.one_pos
  obtain ⟨p,hp⟩:=hw
  have a:∀ l:List UInt8,(l.flatMap cU8).length=l.length:=fun l=>by rw [C9 (sz:=1) (fun _=>rfl)];omega
  have a8:∀ w':World,(w'.heap=w.heap)→(Builtin.firstCells i.size xs.length (.slice (va q) xs.length k)).run P w'=.ok (xs.flatMap cU8).toArray w':=by
   intro w' an
   cases q with
   | none =>
    have h0:xs.length=0∧k=0:=g
    have a1:xs=[]:=List.eq_nil_of_length_eq_zero h0.1
    subst a1
    simp [va,Builtin.firstCells]
   | some b =>
    have z:=(hp.own.1 (bx b (xs.flatMap cU8++j) e) (List.mem_append_right _ (List.mem_append_left _ (by simp [vo])))).1
    exact run_firstCells_some w' i.size xs.length ⟨b,0,none⟩ xs.length k (xs.flatMap cU8) (by rw [a,h4];omega) fun t u ht=>by
     rw [S5]
     simp only [World.cell?,an,z,Nat.zero_add]
     rw [List.getElem?_toArray,List.getElem?_append_left (List.getElem?_eq_some_iff.1 ht).1]
     exact ht
  have hr:=run_append_grow_src (P:=P) w T U o.type e i (.int .u8 0) hT.ty hi af (va q) xs.length k (xs.flatMap cU8) (a8 w.drew rfl) (.string (bs s)) s.length (s.flatMap cU8) (by rw [h4];exact f w) hg opx (growslice_fits hg (by rw [h5];omega))
  rw [d _ _ hr]
  have aj:=grownCap_ge w (xs.length+s.length) k e
  have aw:grownCap w (xs.length+s.length) k e≤maxLen:=grownCap_le_maxLen w (xs.length+s.length) k e (by unfold maxLen;omega)
  have a2:KeptBut ((vo cU8 e ⟨q,k,j⟩ xs).map Prod.fst) w (w.drew.alloc (.cells ((xs.flatMap cU8++s.flatMap cU8).toArray++Builtin.zeroCells (Value.int .u8 0).cells (grownCap w (xs.length+s.length) k e - (xs.length+s.length))) e)) :=
   ⟨rfl,rfl,rfl,by simp,fun k' aq _=>(by show (w.heap.push _)[k']?=_;rw [Array.getElem?_push,if_neg opx])⟩
  have a3:StW X (pre++([bx w.heap.size ((xs++s).flatMap cU8++(Builtin.zeroCells (Value.int .u8 0).cells (grownCap w (xs.length+s.length) k e - (xs.length+s.length))).toList) e]++post)) Φ (w.drew.alloc (.cells ((xs.flatMap cU8++s.flatMap cU8).toArray++Builtin.zeroCells (Value.int .u8 0).cells (grownCap w (xs.length+s.length) k e - (xs.length+s.length))) e)):=by
   refine StW.turn (L0:=vo cU8 e ⟨q,k,j⟩ xs) ⟨p,hp⟩ a2 ?_ oom
   intro e' he
   obtain rfl:e'=_:=by simpa using he
   refine ⟨?_,.inr (Nat.le_refl _)⟩
   simp only
   rw [show (w.drew.alloc (Obj.cells ((xs.flatMap cU8++s.flatMap cU8).toArray++Builtin.zeroCells (Value.int .u8 0).cells (grownCap w (xs.length+s.length) k e - (xs.length+s.length))) e)).heap[w.heap.size]?=_ from heap_alloc_new w.drew _]
   simp [List.flatMap_append]
  have:=hk ⟨⟨some w.heap.size,grownCap w (xs.length+s.length) k e,(Builtin.zeroCells (Value.int .u8 0).cells (grownCap w (xs.length+s.length) k e - (xs.length+s.length))).toList⟩,?_⟩ _ a3
  ·simp only [vv,va,List.length_append] at this
   exact this
  ·refine ⟨?_,by simpa using aj,aw⟩
   have ak:(Value.int IntKind.u8 0).cells.size=1:=rfl
   simp only [Array.length_toList,size_zeroCells,ak,List.length_append];omega
theorem A9l {n:Int}:Value.int .u8 (IntKind.u8.wrap n)=.int .u8 ((by8 (IntKind.u8.wrap n)).toNat:Int):=by
 rw [C5u]
 unfold IntKind.wrap
 simp [IntKind.bits,IntKind.signed]
 omega
theorem B3o {c:BinOp} {a b:Int}:Value.int .u8 (bOp c .u8 a b)=.int .u8 ((by8 (bOp c .u8 a b)).toNat:Int):=by
 unfold bOp;exact A9l
end
end Go.Fen
set_option linter.unusedVariables false
set_option linter.unusedSimpArgs false
namespace Go.Fen
open Go
theorem E3.append {α:Type} {rs b:List Slc} {xss a:List (List α)} (c:E3 rs xss) (e:E3 b a):E3 (rs++b) (xss++a):=by
 refine ⟨by simp [c.1,e.1],fun i r xs hr d=>?_⟩
 by_cases hi:i<rs.length
 ·rw [List.getElem?_append_left hi] at hr
  rw [List.getElem?_append_left (by have:=c.1;omega)] at d
  exact c.2 i r xs hr d
 ·have:=c.1
  rw [List.getElem?_append_right opx] at hr
  rw [List.getElem?_append_right opx] at d
  exact e.2 (i - rs.length) r xs hr (by rw [this];exact d)
theorem E3.set {α:Type} {rs:List Slc} {xss:List (List α)} (h:E3 rs xss) (k:Nat) {r:Slc} {xs:List α} (hr:r.n=xs.length∧r.n≤r.k∧xs.length≤9223372036854775807):E3 (rs.set k r) (xss.set k xs):=by
 refine ⟨by simp [h.1],fun i d c b a=>?_⟩
 rw [List.getElem?_set] at b a
 by_cases hk:k=i
 ·subst hk
  simp only [if_true] at b a
  split at b
  ·split at a
   ·obtain rfl:=Option.some.inj b
    obtain rfl:=Option.some.inj a
    exact hr
   ·cases a
  ·cases b
 ·simp only [hk,if_false] at b a
  exact h.2 i d c b a
section
variable {P:Program} {n:Nat} {X:Cx} {K:Act→World→Prop} {Q:Exit→Act→World→Prop} {E E':Env} {L L':Own} {Φ Φ':List Pers}
theorem B4n {α:Type} {c:α→List Value} {rs b:List Slc} {xss a:List (List α)} (h:rs.length=xss.length) (g:J8 Φ (D3 c rs xss)) (f:J8 Φ (D3 c b a)):J8 Φ (D3 c (rs++b) (xss++a)):=fun p e i r xs hr d=>by
 by_cases hi:i<rs.length
 ·rw [List.getElem?_append_left hi] at hr
  rw [List.getElem?_append_left opx] at d
  exact g p e i r xs hr d
 ·rw [List.getElem?_append_right opx] at hr
  rw [List.getElem?_append_right opx] at d
  exact f p e (i - rs.length) r xs hr (by rw [h];exact d)
theorem B7p {α:Type} {c:α→List Value} {rs:List Slc} {xss:List (List α)} (k:Nat) {r:Slc} {xs:List α} (g:J8 Φ (D3 c rs xss)) (e:J8 Φ (sl c r.q xs)):J8 Φ (D3 c (rs.set k r) (xss.set k xs)):=fun p d i f b hr a=>by
 rw [List.getElem?_set] at hr a
 by_cases hk:k=i
 ·subst hk
  simp only [if_true] at hr a
  split at hr
  ·split at a
   ·obtain rfl:=Option.some.inj hr
    obtain rfl:=Option.some.inj a
    exact e p d
   ·cases a
  ·cases hr
 ·simp only [hk,if_false] at hr a
  exact g p d i f b hr a
theorem B9u {o:Oper} {c:Call} {T e g:Nat} {x y:Operand} {α:Type} {cc:α→List Value} {r:VR} {rs ys:List Slc} {xss a:List (List α)} {q:Option Addr} {k m kk:Nat} {pre post:Own} (hT:ApTy P T e 1 g)
  (ho:o.op=.call c) (hc:c.callee=.builtin .append) (t:c.args=#[x,y]) (j:c.argTypes=#[T,T]) (hx:ev E x=some (vv r k)) (hk:k=xss.length) (hy:ev E y=some (.slice q m kk)) (hm:m=a.length) (hL:L=pre++(vo E4 e r rs++post))
  (hq:J8 Φ (sl E4 q ys)) (h1:J8 Φ (D3 cc rs xss)) (h2:J8 Φ (D3 cc ys a)) (h:E3 rs xss) (l:E3 ys a) (u:VOk 1 xss.length r) (hb:(xss.length+a.length) * g≤140737488355328) (ad:xss.length+a.length≤9223372036854775807) :
  Tri P n X o E L Φ {b:VR // VOk 1 (xss++a).length b} (fun b=>vv b.1 (xss++a).length) (fun b=>pre++(vo E4 e b.1 (rs++ys)++post)) (fun _=>D3 cc (rs++ys) (xss++a)::Φ):=by
 have d:=h.1
 have e2:=l.1
 have v:(rs++ys).length=(xss++a).length:=by simp [d,e2]
 intro ac w K Q hs hK
 refine B1p (f:=E4) (xs:=rs) (ys:=ys) hT (fun _=>rfl) (fun _=>rfl) ho hc t j (by rw [d,← hk];exact hx) hy opx hL hq (by rw [d];exact u) (by rw [d,e2];exact hb) opx ac w K Q hs fun b w' hw=>?_
 have:=hK ⟨b.1,v▸b.2⟩ w' (by
  obtain ⟨p,i⟩:=hw
  exact ⟨p,{i with facts:=fun z s=>by rcases List.mem_cons.1 s with rfl | s;exact B4n d h1 h2 p i.facts;exact i.facts z s}⟩)
 simp only [v]
 exact this
theorem B9p {w:World} {T tx ty e:TypeId} {i:TypeInfo} {z:Value} (q:P.underlying T=some (.slice e)) (o:P.underlying tx=some (.int .i64)) (l:P.info? e=some i) (r:i.zero=some z) (m:Nat) (j:0<m)
  (k:m≤9223372036854775807) (p:m * i.bytes≤281474976710656) (s:0<i.size) :
  (Builtin.append_ #[T,tx] ty #[.slice none 0 0,.int .i64 m]).run P w =
   .ok (.slice (some ⟨w.heap.size,0,none⟩) m (grownCap w m 0 e)) (w.drew.alloc (.cells (Builtin.zeroCells z.cells m++Builtin.zeroCells z.cells (grownCap w m 0 e - m)) e)):=by
 have f:m≠0:=by omega
 have d:¬ (9223372036854775807<(m:Int)):=by omega
 have c:¬ (281474976710656<Builtin.nextslicecap m 0 * i.bytes):=by rw [nextslicecap_zero j];omega
 have n:IntKind.i64.wrap (m:Int)=m:=A4g (by show (-9223372036854775808:Int)≤_;omega) (by show _≤(9223372036854775807:Int);omega)
 have b:¬ ((m:Int)<0):=by omega
 have g:¬ (281474976710656<(m:Int) * (i.bytes:Int)):=by omega
 have a:i.size≠0:=by omega
 simp [Builtin.append_,run_underlying q,run_underlying o,sizeOf,typeInfo,zeroValue,l,r,Builtin.lenOf,f,d,c,n,b,g,a,Question.forced,run_firstCells_none,newRow,grownCap,asInt,asIntOf]
 intro h;exact absurd h (Nat.mul_ne_zero f a)
theorem B9k {o:Oper} {c:Call} {T tx e sz g m:Nat} {x y:Operand} {α:Type} {f:α→List Value} (l:ApTy P T e sz g) (h:P.underlying tx=some (.int .i64))
  (ho:o.op=.call c) (hc:c.callee=.builtin .append) (v:c.args=#[x,y]) (j:c.argTypes=#[T,tx]) (hx:ev E x=some (.slice none 0 0)) (hy:ev E y=some (.int .i64 (m:Int))) (h0:0<m) (hb:m * g≤140737488355328) (u:m≤9223372036854775807) :
  Tri P n X o E L Φ {b:VR // VOk sz 0 b∧m≤b.k} (fun b=>.slice (va b.1.q) m b.1.k) (fun b=>L++(vo f e b.1 []++[])) (fun _=>Φ):=by
 intro ac w K Q p hk
 obtain ⟨i,hi,a⟩:=Option.map_eq_some_iff.1 l.info
 simp only [Prod.mk.injEq] at a
 obtain ⟨h4,h5,h6⟩:=a
 obtain ⟨z,hz,h6⟩:=Option.map_eq_some_iff.1 h6
 have a3:0<sz:=by simpa [Nat.blt_eq] using l.pos
 have r:=grownCap_ge w m 0 e
 have s:=grownCap_le_maxLen w m 0 e (by simp only [maxLen];omega)
 refine A2c (by rw [ho];rfl) ?_
 unfold Oper.wp
 rw [show (execOp ac.eval o).run P w=.ok (.value (.slice (some ⟨w.heap.size,0,none⟩) m (grownCap w m 0 e))) (w.drew.alloc (.cells (Builtin.zeroCells z.cells m++Builtin.zeroCells z.cells (grownCap w m 0 e - m)) e)) by
  simp [execOp,ho,resolve,hc,v,j,C3 p.has hx,C3 p.has hy,invoke,builtin,B9p (P:=P) (ty:=o.type) l.ty h hi hz m h0 u (by rw [h5];omega) opx]]
 obtain ⟨cur,hcur⟩:∃ cur,cur=Builtin.zeroCells z.cells m++Builtin.zeroCells z.cells (grownCap w m 0 e - m):=⟨_,rfl⟩
 rw [← hcur]
 have d:cur.toList.length=grownCap w m 0 e * sz:=by
  rw [hcur];simp only [Array.length_toList,Array.size_append,size_zeroCells,h6,← Nat.add_mul];congr 1;omega
 have:=hk ⟨⟨some w.heap.size,grownCap w m 0 e,cur.toList⟩,⟨by simp [d],Nat.zero_le _,s⟩,r⟩ (w.drew.alloc (.cells cur e)) (by
  refine StW.turn (L0:=[]) (show StW X (L++([]++[])) Φ w by simpa using p.world) ⟨rfl,rfl,rfl,by simp,fun k t _=>heap_alloc_old w.drew _ t⟩ ?_ (by simp [vo])
  intro e' he
  obtain rfl:e'=_:=by simpa [vo] using he
  exact ⟨by simpa using heap_alloc_new w.drew (.cells cur e),.inr (Nat.le_refl _)⟩)
 exact (by simpa [va] using this:K (ac.put o.dst (.slice (some ⟨w.heap.size,0,none⟩) m (grownCap w m 0 e))) (w.drew.alloc (.cells cur e)))
theorem A8u {e:Array Oper} {d:Nat} {b:Array Bool} {c:U3} {Φs:List Pers} {q:Pers} (g:J8 Φ q) (h:JH P n X e d b K c Φs E L (q::Φ)):JH P n X e d b K c Φs E L Φ :=
 ⟨fun h1 h2 hsz hL hΦ a w hs=>h.go h1 h2 hsz hL (fun p f=>hΦ p (fun z i=>f z (List.mem_cons_of_mem _ i))) a w ⟨hs.size,hs.defers,hs.has,hs.world.fact q g⟩⟩
theorem C4n {o:Oper} {c:Call} {T e sz:Nat} {x:Operand} {q:Option Addr} {m k:Nat} (i:SlTy P T e sz) (g:o.op=.call c) (f:c.callee=.builtin .cap) (a:c.args=#[x]) (b:c.argTypes=#[T]) (h:ev E x=some (.slice q m k)):H9 P X o E L Φ (.int .i64 k):=.of_run fun j w d _=>by
 simp [execOp,g,resolve,f,a,b,C3 d h,invoke,builtin,Builtin.cap_,run_underlying i.ty,goInt]
end
end Go.Fen
set_option linter.unusedVariables false
set_option linter.unusedSimpArgs false
namespace Go.Fen
open Go Go.RowKit
section
variable {P:Program} {n:Nat} {X:Cx} {K:Act→World→Prop} {Q:Exit→Act→World→Prop} {E E':Env} {L L':Own} {Φ Φ':List Pers}
theorem A7u {f:Array Oper} {e:Nat} {b:Array Bool} {d:U3} {Φs:List Pers} {α:Type} {c:α→List Value} {T:Nat} {r:VR} {xs:List α} (pre post:Own) {sz:Nat} (g:VOk sz xs.length r) (k:L=pre++(vo c T r xs++post))
  (Lh:Own) (l:d.at b=Lh) (i:Lh.Sublist (pre++post)) (h:JH P n X f e b K d Φs E (pre++post) (sl c (va r.q) xs::Φ)):JH P n X f e b K d Φs E L Φ :=
 ⟨fun h1 h2 hsz _ hΦ a w hs=>h.go h1 h2 hsz (l▸i) (fun p j=>hΦ p (fun z m=>j z (List.mem_cons_of_mem _ m))) a w ⟨hs.size,hs.defers,hs.has,by have:=hs.world;rw [k] at this;exact this.sealed g⟩⟩
theorem B8l {α:Type} {c:α→List Value} {sz:Nat} (a:∀ x,(c x).length=sz) (d:α):∀ (xs:List α) (k:Nat),k<xs.length→((xs.flatMap c).drop (k * sz)).take sz=c (xs.getD k d)
 | [],k,h=>by simp at h
 | x::xs,0,_=>by simp [List.take_append_of_le_length,← a x]
 | x::xs,k+1,h=>by
  have:=B8l a d xs k (by simpa using h)
  rw [List.flatMap_cons,Nat.succ_mul,Nat.add_comm,← List.drop_drop,← a x,List.drop_left,a x,this];simp
theorem B3a {α:Type} {c:α→List Value} {sz:Nat} (e:∀ x,(c x).length=sz) (d:α) {xs:List α} {k j:Nat} (a:k<xs.length) (b:j<sz):(xs.flatMap c)[k * sz+j]?=(c (xs.getD k d))[j]?:=by
 rw [← B8l e d xs k a,List.getElem?_take,if_pos b,List.getElem?_drop]
theorem C9k {α:Type} {f:α→List Value} {sz:Nat} (a:∀ x,(f x).length=sz) (d:α) (n:Nat):(madeCells (f d).toArray (n * sz)).toList=(List.replicate n d).flatMap f:=by
 apply List.ext_getElem?
 intro i
 by_cases h0:sz=0
 ·have:(List.replicate n d).flatMap f=[]:=List.length_eq_zero_iff.1 (by rw [C9 a];simp [h0])
  rw [this];simp [madeCells,h0]
 ·by_cases hi:i<n * sz
  ·have b:i / sz<n:=by rw [Nat.div_lt_iff_lt_mul opx];exact hi
   have g:i % sz<sz:=Nat.mod_lt _ opx
   have e:i / sz * sz+i % sz=i:=by rw [Nat.mul_comm];exact Nat.div_add_mod i sz
   have c:=B3a a d (xs:=List.replicate n d) (k:=i / sz) (j:=i % sz) (by simpa using b) g
   rw [e] at c
   rw [c]
   have:(List.replicate n d).getD (i / sz) d=d:=by simp [List.getD_eq_getElem?_getD,List.getElem?_replicate,b]
   rw [this]
   simp [madeCells,hi,a,g]
  ·rw [List.getElem?_eq_none (by simp [madeCells];omega),List.getElem?_eq_none (by rw [C9 a];simp;omega)]
theorem A8s {o:Oper} {T e sz b l c:Nat} {x y:Operand} {α:Type} {f:α→List Value} (d:α) (hT:ApTy P T e sz b) (hz:((P.info? e).bind (·.zero)).map (·.cells)=some (f d).toArray) (hf:∀ x,(f x).length=sz)
  (ho:o.op=.makeSlice T x y) (hx:ev E x=some (.int .i64 (l:Int))) (hy:ev E y=some (.int .i64 (c:Int))) (p:l≤c) (hb:c * b≤140737488355328) (a9:c≤9223372036854775807) :
  Tri P n X o E L Φ {g:VR // VOk sz (List.replicate l d).length g} (fun g=>.slice (va g.1.q) (List.replicate l d).length g.1.k) (fun g=>L++(vo f e g.1 (List.replicate l d)++[])) (fun _=>Φ):=by
 intro ac w K Q t hk
 obtain ⟨i,hi,a⟩:=Option.map_eq_some_iff.1 hT.info
 simp only [Prod.mk.injEq] at a
 obtain ⟨h4,h5,h6⟩:=a
 obtain ⟨z,j,h7⟩:=Option.map_eq_some_iff.1 h6
 have m:z.cells=(f d).toArray:=by simpa [hi,j] using hz
 have s:(i.bytes:Int) * (c:Int)≤281474976710656:=by
  have h:((c * b:Nat):Int)≤140737488355328:=by omega
  rw [Int.natCast_mul,Int.mul_comm] at h
  rw [h5];omega
 have hr:=run_make (P:=P) w T e i z hT.ty hi j .i64 .i64 l c opx opx s opx
 simp only [Int.toNat_natCast,h4,m] at hr
 refine A2c (by rw [ho];rfl) ?_
 unfold Oper.wp
 rw [show (execOp ac.eval o).run P w=.ok (.value (.slice (some ⟨w.heap.size,0,none⟩) l c)) (w.alloc (.cells (madeCells (f d).toArray (c * sz)) e)) by
  simp [execOp,ho,C3 t.has hx,C3 t.has hy,hr]]
 have r:(madeCells (f d).toArray (c * sz)).toList=(List.replicate l d).flatMap f++(List.replicate (c - l) d).flatMap f:=by
  rw [C9k hf,← List.flatMap_append,List.replicate_append_replicate];congr 2;omega
 have v:((List.replicate (c - l) d).flatMap f).length=(c - l) * sz:=by rw [C9 hf,List.length_replicate]
 have:=hk ⟨⟨some w.heap.size,c,(List.replicate (c - l) d).flatMap f⟩,by
  refine ⟨?_,by simpa using p,by simp only [maxLen];omega⟩
  simp only [List.length_replicate,v,← Nat.add_mul];congr 1;omega⟩ (w.alloc (.cells (madeCells (f d).toArray (c * sz)) e)) (by
  refine StW.turn (L0:=[]) (show StW X (L++([]++[])) Φ w by simpa using t.world) ⟨rfl,rfl,rfl,by simp,fun k u _=>heap_alloc_old w _ u⟩ ?_ (by simp [vo])
  intro e' he
  obtain rfl:e'=_:=by simpa [vo] using he
  refine ⟨?_,.inr (Nat.le_refl _)⟩
  rw [← r]
  simpa using heap_alloc_new w (.cells (madeCells (f d).toArray (c * sz)) e))
 exact (by simpa [va] using this:K (ac.put o.dst (.slice (some ⟨w.heap.size,0,none⟩) l c)) (w.alloc (.cells (madeCells (f d).toArray (c * sz)) e)))
end
theorem C8a (a b:Int):(if b<a then b else a)≤a∧(if b<a then b else a)≤b∧((if b<a then b else a)=a∨(if b<a then b else a)=b):=by split<;>omega
def E8 {α β:Type} (x:α) (k:α→β):β:=k x
theorem E9 {α β:Type} {x:α} {k:α→β} {R:β} (h:E8 x k=R):∃ r,x=r∧k r=R:=⟨x,rfl,h⟩
@[simp] theorem D2z {α β:Type} (x:α) (k:α→β):E8 x k=k x:=rfl
end Go.Fen
set_option linter.unusedVariables false
set_option linter.unusedSimpArgs false
namespace Go.Fen
open Go Go.RowKit
def lkV (k:Int) (z:Value):List (Int×Value)→Value
 | []=>z
 | (a,v)::r=>bif decide (k=a) then v else lkV k z r
def C0z {α:Type} (k:Int):List (Int×α)→Bool
 | []=>false
 | (a,_)::r=>bif decide (k=a) then true else C0z k r
def B9:List (Int×Value)→Nat→List MapEntry
 | [],_=>[]
 | (a,v)::r,j=>⟨.int .i64 a,v,j⟩::B9 r (j+1)
section
variable {P:Program} {n:Nat} {X:Cx} {K:Act→World→Prop} {Q:Exit→Act→World→Prop} {E E':Env} {L L':Own} {Φ Φ':List Pers}
def B4h (P:Program) (a:Value) (args:List Value) (Φ0:List Pers) (v:Value):Prop :=
 ∃ (k:FuncId) (first cap:Array Value),a=.func (.func k) first cap∧J6 P k ((first++args.toArray++cap).toList) Φ0 v
theorem B4h.of {k:FuncId} {first cap:Array Value} {args a:List Value} {Φ0 Φ1:List Pers} {v:Value} (h:J6 P k a Φ1 v) (d:(first++args.toArray++cap).toList=a) (f:A5 Φ0 Φ1):B4h P (.func (.func k) first cap) args Φ0 v :=
 ⟨k,first,cap,rfl,d▸⟨h.1,fun w p e b c=>h.2 w p (f p e) b c⟩⟩
theorem B4h.cons {ρ:Type} (val:ρ→Value) {k a:Int} {z v:Value} {l:List (Int×Value)} {args:List Value} {Φ0:List Pers} {b c:ρ} (h:C0z k ((a,v)::l)=true) (f:k=a→B4h P v args Φ0 (val b)) (d:C0z k l=true→¬ k=a→B4h P (lkV k z l) args Φ0 (val c)) :
  B4h P (lkV k z ((a,v)::l)) args Φ0 (val (bif decide (k=a) then b else c)):=by
 by_cases e:k=a
 ·simpa [lkV,e] using f e
 ·simpa [lkV,e] using d (by simpa [C0z,e] using h) e
theorem B4h.nil {k:Int} {z v:Value} {args:List Value} {Φ0:List Pers} (h:C0z k ([]:List (Int×Value))=true):B4h P z args Φ0 v:=by cases h
def B3y (P:Program) (a:Value) (args:List Value) (Φ0:List Pers) {ρ:Type} (pv:Value) (R:Option ρ) (val:ρ→Value):Prop :=
 ∃ (k:FuncId) (first cap:Array Value),a=.func (.func k) first cap∧B7x P k ((first++args.toArray++cap).toList) [] Φ0 pv R val
theorem B3y.of {k:FuncId} {first cap:Array Value} {args a:List Value} {Φ0 Φ1:List Pers} {ρ:Type} {pv:Value} {R:Option ρ} {val:ρ→Value} (h:B7x P k a [] Φ1 pv R val) (d:(first++args.toArray++cap).toList=a) (f:A5 Φ0 Φ1):B3y P (.func (.func k) first cap) args Φ0 pv R val :=
 ⟨k,first,cap,rfl,d▸⟨h.1,fun w p e b c=>h.2 w p (f p e) b c⟩⟩
theorem B3y.cons {ρ:Type} {pv:Value} {val:ρ→Value} {k a:Int} {z v:Value} {l:List (Int×Value)} {args:List Value} {Φ0:List Pers} {b c:Option ρ} (h:C0z k ((a,v)::l)=true) (f:k=a→B3y P v args Φ0 pv b val) (d:C0z k l=true→¬ k=a→B3y P (lkV k z l) args Φ0 pv c val) :
  B3y P (lkV k z ((a,v)::l)) args Φ0 pv (bif decide (k=a) then b else c) val:=by
 by_cases e:k=a
 ·simpa [lkV,e] using f e
 ·simpa [lkV,e] using d (by simpa [C0z,e] using h) e
theorem B3y.nil {k:Int} {z:Value} {args:List Value} {Φ0:List Pers} {ρ:Type} {pv:Value} {R:Option ρ} {val:ρ→Value} (h:C0z k ([]:List (Int×Value))=true):B3y P z args Φ0 pv R val:=by cases h
theorem C2f {β:Type} {c:β→List Value} {n:Nat}:J8 Φ (D3 c (List.replicate n (⟨none,0,0⟩:Slc)) (List.replicate n ([]:List β))):=fun p d i r xs a b=>by
 rw [List.getElem?_replicate] at a b
 split at a
 ·cases a;rw [if_pos (by assumption)] at b;cases b;exact rfl
 ·cases a
theorem E3.rep {β:Type} (n:Nat):E3 (List.replicate n (⟨Option.none,0,0⟩:Slc)) (List.replicate n ([]:List β)):=⟨by simp,fun i r xs a b=>by
 rw [List.getElem?_replicate] at a b
 split at a
 ·cases a;rw [if_pos (by assumption)] at b;cases b;exact ⟨rfl,Nat.le_refl _,by simp⟩
 ·cases a⟩
theorem C5r {o:Oper} {T e b l c:Nat} {x y:Operand} {β:Type} (s:ApTy P T e 1 b) (r:((P.info? e).bind (·.zero)).map (·.cells)=some #[.slice none 0 0])
  (j:o.op=.makeSlice T x y) (m:ev E x=some (.int .i64 (l:Int))) (p:ev E y=some (.int .i64 (c:Int))) (g:l≤c) (h:c * b≤140737488355328) (d:c≤9223372036854775807) :
  Tri P n X o E L Φ {a:VR // VOk 1 (List.replicate l ([]:List β)).length a} (fun a=>.slice (va a.1.q) (List.replicate l ([]:List β)).length a.1.k) (fun a=>L++(vo E4 e a.1 (List.replicate l (⟨none,0,0⟩:Slc))++[])) (fun _=>Φ):=by
 have:=A8s (P:=P) (n:=n) (X:=X) (E:=E) (L:=L) (Φ:=Φ) (f:=E4) (⟨none,0,0⟩:Slc) s r (fun _=>rfl) j m p g h d
 have i:(List.replicate l ([]:List β)).length=(List.replicate l (⟨none,0,0⟩:Slc)).length:=by simp
 rw [i]
 exact this
theorem D2m {j:Array Oper} {h:U3} {Φs:List Pers} (is:List Nat) (i:Nat) {f:Array Bool} (d:Array Bool) (t k:Nat) {c p q r:Bool} (y:c=true→p=r) (x:c=false→q=r) (z:E.lookup t=some (.bool c))
  (h1:B5z P n j h is f ((t,.bool true)::E) [(k,.bool p)]=some (d,[(k,.bool p)])) (w:B5z P n j h is f ((t,.bool false)::E) [(k,.bool q)]=some (d,[(k,.bool q)]))
  (g:JH P n X j i d K h Φs ((k,.bool r)::E) L Φ):JH P n X j (is.length+i) f K h Φs E L Φ:=by
 have o:∀ (b:Bool),c=b→∀ a:Act,Has a ([(k,Value.bool r)]++((t,.bool b)::E))→Has a ((k,.bool r)::E):=fun b hb a l s v e=>by
  simp only [List.lookup] at e
  split at e
  ·rename_i u
   have:=l s v (by simp only [List.cons_append,List.nil_append,List.lookup,u];exact e)
   exact this
  ·rename_i u
   refine l s v ?_
   simp only [List.cons_append,List.nil_append,List.lookup,u]
   split
   ·rename_i w
    have:s=t:=by simpa using w
    subst this
    rw [z,hb] at e;exact e
   ·exact e
 refine V0 t c z (fun m=>?_) (fun m=>?_)
 ·refine D0r is i d [(k,.bool p)] h1 (C3x (fun a l=>o true m a ?_) g)
  rw [← y m];exact l
 ·refine D0r is i d [(k,.bool q)] w (C3x (fun a l=>o false m a ?_) g)
  rw [← x m];exact l
theorem V7 {f:Array Oper} {d:U3} {Φs:List Pers} (is:List Nat) (e:Nat) {b:Array Bool} (a:Array Bool) (t i:Nat) {c:Bool} (v:Bool) (l:E.lookup t=some (.bool c))
  (k:B5z P n f d is b ((t,.bool true)::E) [(i,.bool v)]=some (a,[(i,.bool v)])) (j:B5z P n f d is b ((t,.bool false)::E) [(i,.bool false)]=some (a,[(i,.bool false)]))
  (g:JH P n X f e a K d Φs ((i,.bool (c&&v))::E) L Φ):JH P n X f (is.length+e) b K d Φs E L Φ :=
 D2m is e a t i (fun h=>by rw [h];rfl) (fun h=>by rw [h];rfl) l k j g
end
end Go.Fen
set_option linter.unusedVariables false
set_option linter.unusedSimpArgs false
namespace Go.Fen
open Go Go.RowKit
section
variable {P:Program} {n:Nat} {X:Cx} {K:Act→World→Prop} {Q:Exit→Act→World→Prop} {E E':Env} {L L':Own} {Φ Φ':List Pers}
end
end Go.Fen
set_option linter.unusedVariables false
set_option linter.unusedSimpArgs false
namespace Go.Fen
open Go Go.RowKit Go.ChangeShapes
section
variable {P:Program}
def Cod (P:Program) (T:TypeId) (α:Type) (c:α→List Value) (D:{H:Type}→DataW H→α→Prop) (p:Hp→α→Prop):Prop :=
 ∀ {H:Type} {enc:TypeId×Value→H} {w:World} {f:Nat} {g:Nat→Bool} {d:Bool} {e:Nat} {cs:List Value} {x:DataW H×List MemPlace},
  DataW.trod enc P w f g d e T cs=some x→∃ a:α,cs=c a∧D x.1 a∧p (fun b=>w.heap[b]?) a
def A9b {H:Type} (d:DataW H) (n:Int):Prop:=d=.lit (.int .i64 n)
def D3q {H:Type} (d:DataW H) (b:Bool):Prop:=d=.lit (.bool b)
def D3z {H:Type} (d:DataW H) (s:List UInt8):Prop:=d=.lit (.string s)
def A2n (n:Int):Prop:=-9223372036854775808≤n∧n≤9223372036854775807
theorem D2y {k:IntKind} {n:Int} (h:(Lit.int k n).wf=true):k.min≤n∧n≤k.max:=by
 simpa only [Lit.wf,decide_eq_true_eq,Bool.and_eq_true] using h
theorem U9 {T:TypeId} (a:P.underlying T=some (.int .i64)):Cod P T Int X3 A9b (fun _=>A2n):=fun h=>by
 obtain ⟨n,rfl,rfl,b⟩:=DataW.trod_int a h
 exact ⟨n,rfl,rfl,D2y b⟩
theorem C7f {T:TypeId} (a:P.underlying T=some .bool):Cod P T Bool H4 D3q (fun _ _=>True):=fun h=>by
 obtain ⟨b,rfl,rfl⟩:=DataW.trod_bool a h
 exact ⟨b,rfl,rfl,trivial⟩
theorem C8r {T:TypeId} (b:P.underlying T=some .string):Cod P T (List UInt8) D1r D3z (fun _ s=>s.length≤9223372036854775807):=fun h=>by
 obtain ⟨s,rfl,rfl,a⟩:=DataW.trod_string b h
 refine ⟨s.data.toList,by simp [D1r,bs],rfl,?_⟩
 have e:s.data.toList.length=s.size:=by simp
 show s.data.toList.length≤9223372036854775807
 rw [e];simpa [maxLen] using a
theorem A8v {α β:Type} {f:α→Option β} {l:List α} {r:List β} (h:l.mapM f=some r) (i:Nat) (a:α) (c:l[i]?=some a):∃ b,r[i]?=some b∧f a=some b:=Lib.mapM_at h i a c
theorem G7 {cs:List Value} {o n m:Nat} {u rest:List Value} (h:(cs.drop o).take n=u) (hr:cs.drop m=rest) (a:o+n=m):cs.drop o=u++rest:=by
 subst h hr a;rw [← List.drop_drop,List.take_append_drop]
theorem Z7 {H:Type} {enc:TypeId×Value→H} {w:World} {c:Nat} {g:Nat→Bool} {b:Bool} {a:Nat} {T:TypeId} {cs:List Value} {x:DataW H×List MemPlace} {d:Array Field}
  (l:P.underlying T=some (.struct d)) (h:DataW.trod enc P w c g b a T cs=some x) :
  cs.length=P.cellsOf T∧∃ (n:Nat) (ys:List (DataW H×List MemPlace)),a=n+1∧x.1=.agg (ys.map (·.1))∧ys.length=d.size∧∀ (i:Nat) f,d[i]?=some f→∃ y,ys[i]?=some y∧DataW.trod enc P w c g b n f.type ((cs.drop f.offset).take (P.cellsOf f.type))=some y:=by
 cases a with
 | zero=>simp [DataW.trod] at h
 | succ n =>
  unfold DataW.trod at h
  simp only [l] at h
  split at h
  ·rename_i k
   obtain ⟨ys,e,rfl⟩:=Option.map_eq_some_iff.1 h
   refine ⟨k,n,ys,rfl,rfl,by simpa using Lib.mapM_length e,fun i f j=>?_⟩
   exact A8v e i f (by simpa using j)
  ·cases h
theorem B5t {H:Type} {enc:TypeId×Value→H} {w:World} {c:Nat} {f:Nat→Bool} {b:Bool} {a:Nat} {T e:TypeId} {k:Nat} {cs:List Value} {x:DataW H×List MemPlace}
  (l:P.underlying T=some (.array k e)) (h:DataW.trod enc P w c f b a T cs=some x) :
  cs.length=P.cellsOf T∧∃ (n:Nat) (ys:List (DataW H×List MemPlace)),a=n+1∧x.1=.agg (ys.map (·.1))∧ys.length=k∧∀ (i:Nat),i<k→∃ y,ys[i]?=some y∧DataW.trod enc P w c f b n e ((cs.drop (i * P.cellsOf e)).take (P.cellsOf e))=some y:=by
 cases a with
 | zero=>simp [DataW.trod] at h
 | succ n =>
  unfold DataW.trod at h
  simp only [l] at h
  split at h
  ·rename_i j
   obtain ⟨ys,d,rfl⟩:=Option.map_eq_some_iff.1 h
   refine ⟨j,n,ys,rfl,rfl,by simpa using Lib.mapM_length d,fun i g=>?_⟩
   exact A8v d i i (by simp [g])
  ·cases h
abbrev B3u (w:World):Hp:=fun b=>w.heap[b]?
theorem C6l {w:World} {c:Nat} {a:Addr} {n:Nat} {us:List Value} (h:w.cells? c a n=some us):us.length=n∧∀ j,j<n→w.cell? (a.add j)=us[j]?:=by
 unfold World.cells? at h
 split at h
 ·refine ⟨by simpa using Lib.mapM_length h,fun j e=>?_⟩
  obtain ⟨b,d,f⟩:=A8v h j j (by simp [e])
  rw [f,d]
 ·cases h
theorem B8t {w:World} {a:Addr} {v:Value} (h:w.cell? a=some v):a.spot=none∧∃ c T b,w.heap[a.block]?=some (.cells c T b)∧c[a.off]?=some v:=by
 unfold World.cell? at h
 cases hs:a.spot with
 | none =>
  rw [hs] at h
  split at h<;>simp_all
 | some s=>rw [hs] at h;split at h<;>simp_all
theorem B8p (a:Addr) (n:Nat):(a.add n).block=a.block:=by unfold Addr.add;split<;>rfl
theorem C9n (a:Addr) (n:Nat):(a.add n).off=a.off+n:=by unfold Addr.add;split<;>simp_all
theorem C6w (a:Addr) (n m:Nat):(a.add n).add m=a.add (n+m):=by
 unfold Addr.add
 split<;>split<;>split<;>simp_all [Nat.add_assoc]
theorem C4r {T e sz:TypeId} {α:Type} {c:α→List Value} {D:{H:Type}→DataW H→α→Prop} {p:Hp→α→Prop} (hc:Cod P e α c D p) (a9:∀ x,(c x).length=sz) (a3:P.cellsOf e=sz) (h0:0<sz) (ht:P.underlying T=some (.slice e))
  {H:Type} {enc:TypeId×Value→H} {w:World} {b:Nat} {sp:Nat→Bool} {o:Bool} {r:Nat} {cs:List Value} {x:DataW H×List MemPlace} (h:DataW.trod enc P w b sp o r T cs=some x) :
  ∃ (q:Option Addr) (k:Nat) (xs:List α),cs=[.slice q xs.length k]∧xs.length≤k∧k≤9223372036854775807∧(∀ a ∈ xs,p (B3u w) a)∧(sl c q xs).p (B3u w) ∧
   ((q=none∧xs=[]∧k=0)∨∃ (es rest:List (DataW H)),x.1=.slice es rest∧es.length=xs.length∧∀ (i:Nat) (d:DataW H) (a:α),es[i]?=some d→xs[i]?=some a→D d a):=by
 cases r with
 | zero=>simp [DataW.trod] at h
 | succ n =>
  unfold DataW.trod at h
  simp only [ht] at h
  split at h
  all_goals try (simp_all;done)
  ·rename_i l
   simp only [Option.some.injEq,TypeDesc.slice.injEq] at l
   exact ⟨none,0,[],rfl,Nat.le_refl _,Nat.zero_le _,by simp,rfl,.inl ⟨rfl,rfl,rfl⟩⟩
  ·rename_i e' a len cap l
   simp only [Option.some.injEq,TypeDesc.slice.injEq] at l
   subst l
   split at h
   ·rename_i hb
    obtain ⟨b4,an,aj⟩:=hb
    obtain ⟨es,hm,h⟩:=Option.bind_eq_some_iff.1 h
    obtain ⟨rest,_,rfl⟩:=Option.map_eq_some_iff.1 h
    have a8:es.length=len:=by simpa using Lib.mapM_length hm
    have ap:∀ i,i<len→∃ y,es[i]?=some y∧∃ us,w.cells? b (a.add (i * P.cellsOf e)) (P.cellsOf e)=some us∧DataW.trod enc P w b sp o n e us=some y:=fun i hi=>by
     obtain ⟨y,hy,am⟩:=A8v hm i i (by simp [hi])
     obtain ⟨us,hu,t⟩:=Option.bind_eq_some_iff.1 am
     exact ⟨y,hy,us,hu,t⟩
    have ai:∀ m,m≤len→∃ xs:List α,xs.length=m∧(∀ a ∈ xs,p (B3u w) a)∧∀ i,i<m→∃ y v,es[i]?=some y∧xs[i]?=some v∧D y.1 v∧w.cells? b (a.add (i * P.cellsOf e)) (P.cellsOf e)=some (c v):=by
     intro m
     induction m with
     | zero=>exact fun _=>⟨[],rfl,by simp,fun i hi=>by omega⟩
     | succ m ih =>
      intro az
      obtain ⟨xs,g,u,hx⟩:=ih opx
      obtain ⟨y,hy,us,hu,t⟩:=ap m opx
      obtain ⟨v,rfl,hd,hp⟩:=hc t
      refine ⟨xs++[v],by simp [g],fun a ha=>?_,fun i hi=>?_⟩
      ·rcases List.mem_append.1 ha with ha | ha
       ·exact u a ha
       ·rw [List.mem_singleton.1 ha];exact hp
      ·by_cases him:i<m
       ·obtain ⟨y',v',h1,h2,h3,h4⟩:=hx i him
        exact ⟨y',v',h1,by rw [List.getElem?_append_left opx];exact h2,h3,h4⟩
       ·obtain rfl:i=m:=by omega
        exact ⟨y,v,hy,by rw [List.getElem?_append_right opx,g];simp,hd,hu⟩
    obtain ⟨xs,g,u,hx⟩:=ai len (Nat.le_refl _)
    subst g
    refine ⟨some a,cap,xs,rfl,an,by simpa [maxLen] using aj,u,?_,.inr ⟨es.map (·.1),rest.map (·.1),rfl,by simpa using a8,fun i d v hd hv=>?_⟩⟩
    ·show A1m (B3u w) a (xs.flatMap c)
     cases hxs:xs with
     | nil=>exact .inl rfl
     | cons x0 xr =>
      rw [← hxs]
      have s:0<xs.length:=by rw [hxs];simp
      have f:∀ i j,i<xs.length→j<sz→w.cell? (a.add (i * sz+j))=(xs.flatMap c)[i * sz+j]?:=by
       intro i j hi hj
       obtain ⟨y,v,_,h2,_,h4⟩:=hx i hi
       have:=(C6l h4).2 j (by rw [a3];exact hj)
       rw [a3] at this
       rw [B3a a9 v hi hj,show xs.getD i v=v by rw [List.getD_eq_getElem?_getD,h2];rfl,← this,C6w]
      have ac:(xs.flatMap c).length=xs.length * sz:=C9 a9 xs
      have a5:=f 0 0 s h0
      obtain ⟨v0,hv0⟩:∃ v0,(xs.flatMap c)[0 * sz+0]?=some v0:=by
       rw [List.getElem?_eq_getElem (show 0 * sz+0<(xs.flatMap c).length by rw [ac,Nat.zero_mul];exact Nat.mul_pos s h0)];exact ⟨_,rfl⟩
      rw [hv0] at a5
      obtain ⟨hs,cc,TT,fr,hh,_⟩:=B8t a5
      have ab:w.heap[a.block]?=some (.cells cc TT fr):=by simpa [B8p] using hh
      refine .inr ⟨by simpa [Addr.add] using hs,cc,TT,fr,ab,fun j v hj=>?_⟩
      have a4:=(List.getElem?_eq_some_iff.1 hj).1
      rw [ac] at a4
      have e1:j / sz * sz+j % sz=j:=by rw [Nat.mul_comm];exact Nat.div_add_mod j sz
      have h1:=f (j / sz) (j % sz) (by rw [Nat.div_lt_iff_lt_mul h0];exact a4) (Nat.mod_lt _ h0)
      rw [e1,hj] at h1
      obtain ⟨_,a7,TT',ah,ao,al⟩:=B8t h1
      have z:w.heap[a.block]?=some (.cells a7 TT' ah):=by simpa [B8p] using ao
      have:a7=cc:=by
       rw [ab] at z;simp at z;exact z.1.symm
      rw [← this];simpa [C9n] using al
    ·obtain ⟨y,v',h1,h2,h3,_⟩:=hx i (List.getElem?_eq_some_iff.1 hv).1
     rw [hv] at h2
     obtain rfl:v=v':=Option.some.inj h2
     rw [List.getElem?_map,h1] at hd
     obtain rfl:y.1=d:=Option.some.inj hd
     exact h3
   ·cases h
def D1o {α:Type} (c:α→List Value) (p:Hp→α→Prop) (h:Hp) (r:Slc):Prop:=∃ xs:List α,r.n=xs.length∧r.n≤r.k∧xs.length≤9223372036854775807∧(sl c r.q xs).p h∧∀ a ∈ xs,p h a
theorem C9m {T e sz:TypeId} {α:Type} {c:α→List Value} {D:{H:Type}→DataW H→α→Prop} {p:Hp→α→Prop} (i:Cod P e α c D p) (b:∀ x,(c x).length=sz) (a:P.cellsOf e=sz) (g:0<sz) (f:P.underlying T=some (.slice e)) :
  Cod P T Slc E4 (fun _ _=>True) (D1o c p):=fun h=>by
 obtain ⟨q,k,xs,rfl,j,m,d,l,_⟩:=C4r i b a g f h
 exact ⟨⟨q,xs.length,k⟩,rfl,trivial,xs,rfl,j,by omega,l,d⟩
theorem C5b {α:Type} {c:α→List Value} {p:Hp→α→Prop} {h:Hp}:∀ (rs:List Slc),(∀ r ∈ rs,D1o c p h r)→∃ xss:List (List α),E3 rs xss∧(D3 c rs xss).p h∧∀ xs ∈ xss,∀ a ∈ xs,p h a
 | [],_=>⟨[],.none,fun i r xs h=>by simp at h,by simp⟩
 | r::rs,hr=>by
  obtain ⟨xs,o,m,k,t,j⟩:=hr r (List.mem_cons_self ..)
  obtain ⟨xss,s,n,q⟩:=C5b rs fun d l=>hr d (List.mem_cons_of_mem _ l)
  refine ⟨xs::xss,.cons ⟨o,m,k⟩ s,fun i d e b f=>?_,fun ys g=>?_⟩
  ·cases i with
   | zero=>simp at b f;subst b f;exact t
   | succ i=>exact n i d e (by simpa using b) (by simpa using f)
  ·rcases List.mem_cons.1 g with rfl | g
   ·exact j
   ·exact q ys g
theorem C6t {T S e sz:TypeId} {α:Type} {c:α→List Value} {D:{H:Type}→DataW H→α→Prop} {p:Hp→α→Prop} (n:Cod P e α c D p) (l:∀ x,(c x).length=sz) (g:P.cellsOf e=sz) (m:0<sz) (t:P.underlying S=some (.slice e)) (i:P.cellsOf S=1) (r:P.underlying T=some (.slice S))
  {H:Type} {enc:TypeId×Value→H} {w:World} {b:Nat} {v:Nat→Bool} {d:Bool} {f:Nat} {cs:List Value} {x:DataW H×List MemPlace} (h:DataW.trod enc P w b v d f T cs=some x) :
  ∃ (q:Option Addr) (k:Nat) (rs:List Slc) (xss:List (List α)),cs=[.slice q xss.length k]∧xss.length≤k∧k≤9223372036854775807∧E3 rs xss∧(sl E4 q rs).p (B3u w)∧(D3 c rs xss).p (B3u w)∧∀ xs ∈ xss,∀ a ∈ xs,p (B3u w) a:=by
 obtain ⟨q,k,rs,rfl,z,y,u,h4,_⟩:=C4r (c:=E4) (D:=fun _ _=>True) (p:=D1o c p) (C9m n l g m t) (sz:=1) (fun _=>rfl) i Nat.one_pos r h
 obtain ⟨xss,j,o,s⟩:=C5b rs u
 exact ⟨q,k,rs,xss,by rw [j.1],by rw [← j.1];exact z,y,j,h4,o,s⟩
theorem C7h {T e sz k:Nat} {α:Type} {c:α→List Value} {D:{H:Type}→DataW H→α→Prop} {p:Hp→α→Prop} (hc:Cod P e α c D p) (z:∀ x,(c x).length=sz) (a1:P.cellsOf e=sz) (ht:P.underlying T=some (.array k e)) (hT:P.cellsOf T=k * sz)
  (t:DataW Unit→Option α) (v:∀ d a,D d a→t d=some a) {f:List α} {ds:List (DataW Unit)} (g:ds.mapM t=some f)
  {enc:TypeId×Value→Unit} {w:World} {o:Nat} {sp:Nat→Bool} {q:Bool} {s:Nat} {cs:List Value} {ps:List MemPlace} (h:DataW.trod enc P w o sp q s T cs=some (.agg ds,ps)):cs=f.flatMap c:=by
 obtain ⟨hl,n,ys,rfl,hx,a3,hy⟩:=B5t ht h
 have r:ds=ys.map (·.1):=by simpa using hx
 have a4:ds.length=k:=by rw [r];simpa using a3
 have a0:f.length=k:=by rw [← a4];exact Lib.mapM_length g
 have a2:∀ (i:Nat),i<k→∃ a,f[i]?=some a∧(cs.drop (i * sz)).take sz=c a:=by
  intro i hi
  obtain ⟨y,h1,u⟩:=hy i hi
  rw [a1] at u
  obtain ⟨a,h3,h4,_⟩:=hc u
  obtain ⟨b,h5,h6⟩:=A8v g i y.1 (by rw [r];simp [h1])
  rw [v _ _ h4] at h6
  obtain rfl:a=b:=Option.some.inj h6
  exact ⟨a,h5,h3⟩
 rw [hT,← a0] at hl
 apply List.ext_getElem?
 intro j
 by_cases hj:j<f.length * sz
 ·have l:0<sz:=by
   rcases Nat.eq_zero_or_pos sz with m | m
   ·rw [m,Nat.mul_zero] at hj;omega
   ·exact m
  have hk:j / sz<f.length:=by rw [Nat.div_lt_iff_lt_mul l];exact hj
  have hm:j % sz<sz:=Nat.mod_lt _ l
  have e1:j / sz * sz+j % sz=j:=by rw [Nat.mul_comm];exact Nat.div_add_mod j sz
  obtain ⟨a,m,h1⟩:=a2 (j / sz) opx
  have u:=B3a z a hk hm
  rw [e1] at u
  rw [u,show f.getD (j / sz) a=a by simp [List.getD_eq_getElem?_getD,m],← h1,List.getElem?_take,if_pos hm,List.getElem?_drop,e1]
 ·rw [List.getElem?_eq_none opx,List.getElem?_eq_none (by rw [C9 z];omega)]
theorem B8u {i:List (String×DataW Unit)} {w:World} {b:String} {g T:Nat} {ds:List (DataW Unit)} (m:(b,.agg ds) ∈ i) (hg:P.globalNamed b=some g) (hT:(P.globals[g]?).map (·.type)=some T)
  {e sz k:Nat} {α:Type} {c:α→List Value} {D:{H:Type}→DataW H→α→Prop} {p:Hp→α→Prop} (hc:Cod P e α c D p) (a5:∀ x,(c x).length=sz) (a1:P.cellsOf e=sz) (ht:P.underlying T=some (.array k e)) (a4:P.cellsOf T=k * sz)
  (o:DataW Unit→Option α) (a0:∀ d a,D d a→o d=some a) {z:List α} (u:ds.mapM o=some z) (h:laidMet P i w):(sl c (some ⟨g,0,none⟩) z).p (B3u w):=by
 obtain ⟨ps,h,_⟩:=h
 have:∀ (l:List (String×DataW Unit)) (ps:List MemPlace),DataW.LaidVars P w l ps→(b,.agg ds) ∈ l→∃ cs f q,w.var? P b=some cs∧DataW.trod (fun _=>()) P w 0 (fun _=>true) false f T cs.toList=some (.agg ds,q):=by
  intro l
  induction l with
  | nil=>intro ps _ m;cases m
  | cons y r ih =>
   intro ps h m
   obtain ⟨n,d⟩:=y
   obtain ⟨g',t,cs,f,p',q,h1,h2,h3,h4,h5,_⟩:=h
   rcases List.mem_cons.1 m with e | m
   ·simp only [Prod.mk.injEq] at e
    obtain ⟨rfl,rfl⟩:=e
    rw [hg] at h1
    obtain rfl:g=g':=Option.some.inj h1
    rw [hT] at h2
    obtain rfl:T=t:=Option.some.inj h2
    exact ⟨cs,f,p',h3,h4⟩
   ·exact ih q h5 m
 obtain ⟨cs,f,q,s,a2⟩:=this i ps h m
 have a3:=C7h hc a5 a1 ht a4 o a0 u a2
 unfold World.var? at s
 rw [hg] at s
 simp only [Option.bind_some] at s
 split at s
 ·rename_i cs' TT fr hh
  obtain rfl:cs'=cs:=Option.some.inj s
  refine .inr ⟨rfl,cs',TT,fr,hh,fun j v hj=>?_⟩
  rw [← a3] at hj
  simpa using hj
 ·cases s
theorem C5w {f:Func} {s:ChangeSpec} {H:Type} {enc:TypeId×Value→H} (hl:laidOutB P=true) (a0:(f.params.toList.all fun t=>P.readableRec t&&decide (t<P.types.size))=true) (m:f.resultTypes=#[4]) (hb:P.underlying 4=some .bool) (hv:s.vars=[])
  {W W':World} {args:Array Value} {ds n:List (DataW H)} {c:List MemPlace} (hW:DataW.Whole enc P f.params.toList s.vars false W args.toList ds n c) (hk:Below W.heap.size W W')
  (u:s.fn H ds={results:=[.lit (.bool true)],args:=ds}):s.post enc P f false true false false W args (.bool true) W':=by
 have k:=hW
 obtain ⟨p,q,hA,z,rfl,a5,a9⟩:=hW
 rw [hv] at z
 have w:n=[]∧q=[]:=by
  cases n with
  | nil=>exact ⟨rfl,z⟩
  | cons g n=>exact z.elim
 obtain ⟨rfl,rfl⟩:=w
 simp only [List.append_nil] at k
 have y:∀ x ∈ p,x.block<W.heap.size:=fun x r=>k.lt x r
 have a:s.fn H (ds++[])={results:=[.lit (.bool true)],args:=ds}:=by simpa using u
 have j:∀ (l:List TypeId) (e:List Value) (ds:List (DataW H)) (ps:List MemPlace),(l.all fun t=>P.readableRec t&&decide (t<P.types.size))=true→DataW.TrodAll enc P W 0 (fun _=>true) true l e ds ps→(∀ x ∈ ps,x.block<W.heap.size)→DataW.TrodAll enc P W' 0 (fun b=>decide (b<W.heap.size)) true l e ds ps:=by
  intro l
  induction l with
  | nil=>intro e ds ps _ h _;cases e<;>cases ds<;>exact h
  | cons t l ih =>
   intro e ds ps o h r
   cases e with
   | nil=>cases ds<;>exact h.elim
   | cons v e =>
    cases ds with
    | nil=>exact h.elim
    | cons d ds =>
     simp only [List.all_cons,Bool.and_eq_true,decide_eq_true_eq] at o
     obtain ⟨p1,q1,h1,h2,rfl⟩:=h
     exact ⟨p1,q1,Below.trod hl o.1.1 o.1.2 h1 hk (fun x i=>r x (List.mem_append_left _ i)),ih e ds q1 (by simpa using o.2) h2 (fun x i=>r x (List.mem_append_right _ i)),rfl⟩
 refine ⟨ds,[],p,[],p,[],k,?_,?_,?_,hk.frame _,fun h=>by cases h⟩
 ·rw [a,m]
  refine ⟨[],[],⟨1,?_⟩,rfl,rfl⟩
  simp [DataW.trod,hb,Value.cells,Value.resultList]
 ·rw [a];exact j _ _ _ _ a0 hA y
 ·rw [a,hv];rfl
end
end Go.Fen
set_option linter.unusedVariables false
set_option linter.unusedSimpArgs false
namespace Go.Fen
open Go Go.RowKit
def C3d (P:Program) (h:Hp) (b:Value) (args:List Value) (r:Value):Prop :=
 ∃ (k:FuncId) (first cap:Array Value),b=.func (.func k) first cap∧HasBody P k∧∀ (w:World) (a:Hp),h.le a→a.sub w→Z4 [] a w →
  Calls P k (first++args.toArray++cap) w fun e w'=>∃ _:Unit,e=.returned r∧StW (cx w a []) [] [] w'
theorem C3d.mono {P:Program} {h c:Hp} {b:Value} {args:List Value} {r:Value} (l:h.le c) (i:C3d P h b args r):C3d P c b args r:=by
 obtain ⟨k,first,cap,e,f,H⟩:=i
 exact ⟨k,first,cap,e,f,fun w g a d j=>H w g (Hp.le_trans l a) d j⟩
section
variable {P:Program} {n:Nat} {X:Cx} {E:Env} {L:Own} {Φ Φ' Φ0:List Pers}
theorem D4b {c:Func} {r s t q:ResultVar} {v u x y:Value} (d:c.results=#[r,s,t,q]) (h:B1r P n X r E L Φ v) (k:B1r P n X s E L Φ u) (l:B1r P n X t E L Φ x) (m:B1r P n X q E L Φ y):Res P n X c E L Φ (.tuple #[v,u,x,y]):=fun a w b=>by
 simp [A5f,d,h a w b,k a w b,l a w b,m a w b]
end
section
variable {P:Program} {n:Nat} {X:Cx} {K:Go.Act→World→Prop} {Q:Exit→Go.Act→World→Prop} {E:Env} {L L':Go.Fen.Own} {Φ:List Pers}
theorem A2y {a:Array Oper} {i m:Nat} (b:L=L') (h:JI P n X a i m K Q E L' Φ):JI P n X a i m K Q E L Φ:=b▸h
end
end Go.Fen
set_option linter.unusedVariables false
set_option linter.unusedSimpArgs false
namespace Go.Fen
open Go Go.RowKit
def C8p (P:Program) (T:Nat):Option (Nat×Bool) :=
 match P.info? T,P.underlying T with
 | some i,some d=>some (i.size,TypeDesc.row d)
 | _,_=>none
theorem C4j {P:Program} {T sz:Nat} {agg:Bool} (h:C8p P T=some (sz,agg)):Ty P T sz agg:=⟨by
 unfold C8p at h
 unfold TyB
 split at h
 ·rename_i i d b a
  simp only [Option.some.injEq,Prod.mk.injEq] at h
  obtain ⟨rfl,rfl⟩:=h
  simp [b,a]
 ·cases h⟩
def ldV (sz:Nat) (agg:Bool) (cs:List Value) (off:Nat):Option Value :=
 match agg with
 | true=>match Nat.beq ((cs.drop off).take sz).length sz with
  | true=>some (.agg ((cs.drop off).take sz).toArray)
  | false=>none
 | false=>match Nat.beq sz 1 with
  | true=>cs[off]?
  | false=>none
def D2i (v:Value) (sz off:Nat) (cs:List Value):Bool:=Nat.beq v.cells.toList.length sz&&v.cells.toList.all (·.oneCell')&&Nat.ble (off+sz) cs.length
def A6f (P:Program) (E:Env) (L:Own) (a bs:List Nat):Op→Option (Value×Own×List Nat×List Nat×List (Nat×Nat))
 | .load T x=>match ev E x,a with
  | some (.pointer (some ⟨b,off,none⟩)),j::hs'=>match L[j]?,C8p P T with
   | some (b',.cells cs TT (0,0)),some (sz,agg)=>match ldV sz agg cs.toList off with
    | some v=>some (v,L,hs',bs,[(b,b')])
    | none=>none
   | _,_=>none
  | _,_=>none
 | .store T x y=>match ev E x,ev E y,a with
  | some (.pointer (some ⟨b,off,none⟩)),some v,j::hs'=>match L[j]?,C8p P T with
   | some (b',.cells cs TT (0,0)),some (sz,_)=>match D2i v sz off cs.toList with
    | true=>some (undef,L.set j (bx b' (Q3 cs.toList v.cells.toList off) TT),hs',bs,[(b,b')])
    | false=>none
   | _,_=>none
  | _,_,_=>none
 | .box T x=>match ev E x,bs with
  | some v,b::bs'=>some (.pointer (some ⟨b,0,none⟩),bx b v.cells.toList T::L,a,bs',[])
  | _,_=>none
 | .alloc T=>match (P.info? T).bind (·.zero),bs with
  | some z,b::bs'=>some (.pointer (some ⟨b,0,none⟩),bx b z.cells.toList T::L,a,bs',[])
  | _,_=>none
 | .build T ps=>match A7n E ps.toList with
  | some vs=>match C2x P T vs with
   | some cs=>some (.agg cs,L,a,bs,[])
   | none=>none
  | none=>none
 | op=>match A6j P E op with
  | some v=>some (v,L,a,bs,[])
  | none=>none
def exN (P:Program) (n:Nat) (a:Array Oper):Nat→Nat→List Nat→List Nat→Env→Own→List (Nat×Nat)→Option (Env×Own×List Nat×List (Nat×Nat))
 | 0,_,_,bs,E,L,ps=>some (E,L,bs,ps)
 | k+1,i,hs,bs,E,L,ps=>match a[i]? with
  | none=>none
  | some o=>match A5k a o E,W9 n o.dst with
   | some false,true=>exN P n a k (i+1) hs bs (Env.put E o.dst undef) L ps
   | some true,true=>match A6f P E L hs bs o.op with
    | some (v,L',hs',bs',pr)=>exN P n a k (i+1) hs' bs' (Env.put E o.dst v) L' (pr++ps)
    | none=>none
   | _,_=>none
section
variable {P:Program} {n:Nat} {X:Cx} {K:Act→World→Prop} {Q:Exit→Act→World→Prop} {E E':Env} {L L':Own} {Φ Φ':List Pers}
def Op.turns:Op→Bool
 | .box _ _=>true
 | .alloc _=>true
 | .store _ _ _=>true
 | _=>false
theorem C0n {d:Array Oper}:∀ (k i:Nat) {b bs:List Nat} {E R:Env} {L L2:Own} {ps a:List (Nat×Nat)} {c:List Nat},exN P n d k i b bs E L ps=some (R,L2,c,a)→∀ q ∈ ps,q ∈ a
 | 0,i,b,bs,E,R,L,L2,ps,a,c,h,q,hq=>by
  simp only [exN,Option.some.injEq,Prod.mk.injEq] at h
  rw [← h.2.2.2];exact hq
 | k+1,i,b,bs,E,R,L,L2,ps,a,c,h,q,hq=>by
  unfold exN at h
  split at h
  ·cases h
  ·split at h
   ·exact C0n k (i+1) h q hq
   ·split at h
    ·exact C0n k (i+1) h q (List.mem_append_right _ hq)
    ·cases h
   ·cases h
theorem B8v {o:Oper} {p bs d i:List Nat} {v:Value} {m:List (Nat×Nat)} (c:Op.turns o.op=false) (h:A6f P E L p bs o.op=some (v,L',d,i,m)) (z:∀ q ∈ m,q.1=q.2) :
  i=bs∧L'=L∧(∀ e,A6f P E L p e o.op=some (v,L',d,e,m))∧H9 P X o E L Φ v:=by
 cases ho:o.op with
 | box T x=>rw [ho] at c;cases c
 | alloc T=>rw [ho] at c;cases c
 | store T x y=>rw [ho] at c;cases c
 | load T x =>
  rw [ho] at h
  simp only [A6f] at h
  split at h
  ·rename_i b off j w n
   split at h
   ·rename_i b' cs TT sz agg r t
    split at h
    ·rename_i u a
     simp only [Option.some.injEq,Prod.mk.injEq] at h
     obtain ⟨rfl,rfl,rfl,rfl,rfl⟩:=h
     obtain rfl:b=b':=z (b,b') oom
     refine ⟨rfl,rfl,fun e=>?_,?_⟩
     ·simp only [A6f,n,r,t,a]
     ·have g:=C4j t
      have s:L[j]?=some (bx b cs.toList TT):=by rw [r]
      unfold ldV at a
      cases agg with
      | true =>
       simp only at a
       split at a
       ·rename_i l
        obtain rfl:=Option.some.inj a
        exact E5 g ho n j s rfl (Nat.eq_of_beq_eq_true l)
       ·cases a
      | false =>
       simp only at a
       split at a
       ·rename_i l
        obtain rfl:=Nat.eq_of_beq_eq_true l
        exact A7 g ho n j s a
       ·cases a
    ·cases h
   ·cases h
  ·cases h
 | build T ps =>
  rw [ho] at h
  simp only [A6f] at h
  split at h
  ·rename_i vs f
   split at h
   ·rename_i cs k
    simp only [Option.some.injEq,Prod.mk.injEq] at h
    obtain ⟨rfl,rfl,rfl,rfl,rfl⟩:=h
    refine ⟨rfl,rfl,fun e=>by simp only [A6f,f,k],?_⟩
    have:=N8 (X:=X) (L:=L) (Φ:=Φ) (cs:=cs.toList) ho f (by simpa using k)
    simpa using this
   ·cases h
  ·cases h
 | _ =>
  all_goals
   rw [ho] at h
   simp only [A6f] at h
   split at h
   ·rename_i u a
    simp only [Option.some.injEq,Prod.mk.injEq] at h
    obtain ⟨rfl,rfl,rfl,rfl,rfl⟩:=h
    refine ⟨rfl,rfl,fun e=>by simp only [A6f,a],H9.pure (by rw [ho];exact a)⟩
   ·cases h
theorem C4d {o:Oper} {T:Nat} {x y:Operand} {i bs c d:List Nat} {v:Value} {g:List (Nat×Nat)} (f:o.op=.store T x y) (h:A6f P E L i bs o.op=some (v,L',c,d,g)) (s:∀ q ∈ g,q.1=q.2) :
  d=bs∧(∀ e,A6f P E L i e o.op=some (v,L',c,e,g))∧Tri P n X o E L Φ Unit (fun _=>v) (fun _=>L') (fun _=>Φ):=by
 rw [f] at h
 simp only [A6f] at h
 split at h
 ·rename_i b off u j r l m
  split at h
  ·rename_i b' cs TT sz agg k p
   split at h
   ·rename_i a
    simp only [Option.some.injEq,Prod.mk.injEq] at h
    obtain ⟨rfl,rfl,rfl,rfl,rfl⟩:=h
    obtain rfl:b=b':=s (b,b') oom
    refine ⟨rfl,fun e=>?_,?_⟩
    ·rw [f];simp only [A6f,l,m,k,p,a]
    ·have t:L[j]?=some (bx b cs.toList TT):=by rw [k]
     unfold D2i at a
     simp only [Bool.and_eq_true] at a
     exact D0 (C4j p) f l m j t oom (Nat.eq_of_beq_eq_true a.1.1) a.1.2 rfl a.2
   ·cases h
  ·cases h
 ·cases h
theorem A2e {d:Array Oper} {m:Nat}:∀ (k i:Nat) (f:List Nat) (c:Nat) {E:Env} {L:Own} {ps:List (Nat×Nat)},
  (∀ bs:List Nat,bs.length=c→∃ R L2 j,exN P n d k i f bs E L ps=some (R,L2,[],j)∧(∀ q ∈ j,q.1=q.2)∧JI P n X d (i+k) m K Q R L2 Φ)→JI P n X d i (k+m) K Q E L Φ
 | 0,i,f,c,E,L,ps,H=>by
  obtain ⟨R,L2,j,h,r,p⟩:=H (List.replicate c 0) oom
  simp only [exN,Option.some.injEq,Prod.mk.injEq] at h
  obtain ⟨rfl,rfl,_,_⟩:=h
  rw [Nat.zero_add];exact p
 | k+1,i,f,c,E,L,ps,H=>by
  obtain ⟨R,L2,j,h,r,p⟩:=H (List.replicate c 0) oom
  have h0:=h
  unfold exN at h
  rw [Nat.add_right_comm]
  split at h
  ·cases h
  ·rename_i o ho
   have g:∀ bs,exN P n d (k+1) i f bs E L ps=match A5k d o E,W9 n o.dst with
     | some false,true=>exN P n d k (i+1) f bs (Env.put E o.dst undef) L ps
     | some true,true=>match A6f P E L f bs o.op with
      | some (v,L',l,a7,pr)=>exN P n d k (i+1) l a7 (Env.put E o.dst v) L' (pr++ps)
      | none=>none
     | _,_=>none:=fun bs=>by rw [exN];simp only [ho]
   split at h
   ·rename_i hr w
    refine C4l ho hr w (A2e (ps:=ps) k (i+1) f c fun bs s=>?_)
    obtain ⟨R,L2,j,h,r,p⟩:=H bs s
    rw [g,hr,w] at h
    exact ⟨R,L2,j,h,r,by rw [Nat.add_assoc,Nat.add_comm 1 k];exact p⟩
   ·rename_i hr w
    split at h
    ·rename_i v L' l a7 pr hx
     have a6:∀ q ∈ pr,q.1=q.2:=fun q aa=>r q (C0n k (i+1) h q (List.mem_append_left _ aa))
     have next:∀ bs b2,A6f P E L f bs o.op=some (v,L',l,b2,pr)→exN P n d (k+1) i f bs E L ps=exN P n d k (i+1) l b2 (Env.put E o.dst v) L' (pr++ps):=fun bs b2 s=>by
      rw [g,hr,w];simp only [s]
     cases ht:Op.turns o.op with
     | false =>
      obtain ⟨_,rfl,t,a5⟩:=B8v (X:=X) (Φ:=Φ) ht hx a6
      refine C0b ho hr w a5.det (A2e (ps:=pr++ps) k (i+1) l c fun bs s=>?_)
      obtain ⟨R,L2,j,h,r,p⟩:=H bs s
      rw [next bs bs (t bs)] at h
      exact ⟨R,L2,j,h,r,by rw [Nat.add_assoc,Nat.add_comm 1 k];exact p⟩
     | true =>
      cases hop:o.op with
      | store T x y =>
       obtain ⟨_,t,a4⟩:=C4d (n:=n) (X:=X) (Φ:=Φ) hop hx a6
       refine B5o ho hr w a4 fun _=>(A2e (ps:=pr++ps) k (i+1) l c fun bs s=>?_)
       obtain ⟨R,L2,j,h,r,p⟩:=H bs s
       rw [next bs bs (t bs)] at h
       exact ⟨R,L2,j,h,r,by rw [Nat.add_assoc,Nat.add_comm 1 k];exact p⟩
      | box T x =>
       have a:=hx
       rw [hop] at a
       simp only [A6f] at a
       split at a
       ·rename_i u b0 a9 hu a0
        obtain ⟨c',rfl⟩:∃ c',c=c'+1:=by
         cases c with
         | zero=>cases a0
         | succ c=>exact ⟨c,rfl⟩
        refine B5o ho hr w (A7v (cs:=u.cells.toList) hop hu oom) fun b=>(A2e (ps:=ps) k (i+1) f c' fun bs s=>?_)
        ·obtain ⟨R,L2,j,h,r,p⟩:=H (b::bs) (by simp [s])
         have e:A6f P E L f (b::bs) o.op=some (.pointer (some ⟨b,0,none⟩),bx b u.cells.toList T::L,f,bs,[]):=by rw [hop];simp only [A6f,hu]
         rw [g,hr,w] at h
         simp only [e] at h
         exact ⟨R,L2,j,h,r,by rw [Nat.add_assoc,Nat.add_comm 1 k];exact p⟩
       ·cases a
      | alloc T =>
       have a:=hx
       rw [hop] at a
       simp only [A6f] at a
       split at a
       ·rename_i z b0 a9 hz a0
        obtain ⟨c',rfl⟩:∃ c',c=c'+1:=by
         cases c with
         | zero=>cases a0
         | succ c=>exact ⟨c,rfl⟩
        refine B5o ho hr w (I7 (cs:=z.cells.toList) ⟨by rw [hz];simp⟩ hop) fun b=>(A2e (ps:=ps) k (i+1) f c' fun bs s=>?_)
        ·obtain ⟨R,L2,j,h,r,p⟩:=H (b::bs) (by simp [s])
         have e:A6f P E L f (b::bs) o.op=some (.pointer (some ⟨b,0,none⟩),bx b z.cells.toList T::L,f,bs,[]):=by rw [hop];simp only [A6f,hz]
         rw [g,hr,w] at h
         simp only [e] at h
         exact ⟨R,L2,j,h,r,by rw [Nat.add_assoc,Nat.add_comm 1 k];exact p⟩
       ·cases a
      | _=>all_goals (rw [hop] at ht;cases ht)
    ·cases h
   ·cases h
theorem B9e {a:Array Oper} {b:Env} {t:Nat} {v:Value} (E0:Env) (f:E0.lookup t=some v) (g:b.lookup t=none):∀ (k i:Nat) {c bs:List Nat} {E R:Env} {L L2:Own} {ps m:List (Nat×Nat)} {j:List Nat},
  B5w a E0 b k i=true→exN P n a k i c bs E L ps=some (R,L2,j,m)→E.lookup t=some v→R.lookup t=some v
 | 0,i,c,bs,E,R,L,L2,ps,m,j,_,h,he=>by
  simp only [exN,Option.some.injEq,Prod.mk.injEq] at h
  rw [← h.1];exact he
 | k+1,i,c,bs,E,R,L,L2,ps,m,j,hk,h,he=>by
  unfold exN at h
  unfold B5w at hk
  simp only [Bool.and_eq_true] at hk
  split at h
  ·cases h
  ·rename_i o p
   have l:o.dst≠some t:=by
    intro l
    have:=hk.1
    simp only [p,Option.bind_some,l,A7p,g,f] at this
    simp at this
   have put:∀ u,(Env.put E o.dst u).lookup t=some v:=by
    intro u
    cases hdst:o.dst with
    | none=>exact he
    | some d =>
     have:(t == d)=false:=by simp;intro e;exact l (by rw [hdst,e])
     simp only [Env.put,List.lookup,this];exact he
   split at h
   ·exact B9e E0 f g k (i+1) hk.2 h (put _)
   ·split at h
    ·exact B9e E0 f g k (i+1) hk.2 h (put _)
    ·cases h
   ·cases h
def exL (P:Program) (n:Nat) (a:Array Oper) (k i:Nat) (c bs:List Nat) (E:Env) (L:Own) (b:Env):Option (Env×Own×List Nat) :=
 match B5w a E b k i with
 | true=>match exN P n a k i c bs E L [] with
  | some (R,L2,[],ps)=>match keep R b with
   | some r=>some (r,L2,ps.map Prod.fst)
   | none=>none
  | _=>none
 | false=>none
def exS (P:Program) (n:Nat) (a:Array Oper) (k i:Nat) (b bs:List Nat) (E:Env) (L:Own):List Nat :=
 match exN P n a k i b bs E L [] with
 | some (_,_,_,ps)=>ps.map Prod.snd
 | none=>[]
theorem C1n:∀ (ps:List (Nat×Nat)),ps.map Prod.fst=ps.map Prod.snd→∀ q ∈ ps,q.1=q.2
 | [],_,q,hq=>by cases hq
 | p::ps,h,q,hq=>by
  simp only [List.map_cons,List.cons.injEq] at h
  rcases List.mem_cons.1 hq with rfl | hq
  ·exact h.1
  ·exact C1n ps h.2 q hq
theorem A8z {b:Array Oper} {k i:Nat} {d bs:List Nat} {c:Env} (h:exL P n b k i d bs E L c=some (c,L',exS P n b k i d bs E L)) :
  ∃ R m,exN P n b k i d bs E L []=some (R,L',[],m)∧(∀ q ∈ m,q.1=q.2)∧∀ a,Has a R→Has a (c++E):=by
 unfold exL at h
 split at h
 ·rename_i g
  split at h
  ·rename_i R L2 ps hR
   split at h
   ·rename_i r hr
    simp only [Option.some.injEq,Prod.mk.injEq] at h
    obtain ⟨rfl,rfl,j⟩:=h
    have o:exS P n b k i d bs E L=ps.map Prod.snd:=by unfold exS;rw [hR]
    rw [o] at j
    refine ⟨R,ps,hR,C1n ps j,fun a l t v e=>?_⟩
    rw [A6l] at e
    split at e
    ·rename_i u f
     exact (l.weaken (J1 (A9n hr))) t v (by rw [f];exact e)
    ·rename_i f
     exact l t v (B9e E e f k i g hR e)
   ·cases h
  ·cases h
 ·cases h
theorem B9j {b:Array Oper} {i m:Nat} (hE:∀ a,Has a E→Has a E') (h:JI P n X b i m K Q E' L Φ):JI P n X b i m K Q E L Φ:=fun a w c=>h a w ⟨c.size,c.defers,hE a c.has,c.world⟩
theorem zrg {a:Array Oper} {i:Nat} (k m:Nat) (c:List Nat) (b:Env) (L':Own) (g:JI P n X a (i+k) m K Q (b++E) L' Φ) (h:exL P n a k i c [] E L b=some (b,L',exS P n a k i c [] E L):=by kernel_rfl):JI P n X a i (k+m) K Q E L Φ :=
 A2e k i c 0 fun bs d=>by
  obtain rfl:=List.length_eq_zero_iff.1 d
  obtain ⟨R,l,j,e,f⟩:=A8z h
  exact ⟨R,L',l,j,e,B9j f g⟩
theorem J3 {a:Array Oper} {i:Nat} (k m:Nat) (d:List Nat) (c:Nat→Env) (L':Nat→Own) (g:∀ b,JI P n X a (i+k) m K Q (c b++E) (L' b) Φ) (h:∀ b,exL P n a k i d [b] E L (c b)=some (c b,L' b,exS P n a k i d [b] E L):=by intros;kernel_rfl):JI P n X a i (k+m) K Q E L Φ :=
 A2e k i d 1 fun bs e=>by
  match bs,e with
  | [b],_ =>
   obtain ⟨R,o,l,f,j⟩:=A8z (h b)
   exact ⟨R,L' b,o,l,f,B9j j (g b)⟩
theorem A4z {a:Array Oper} {i:Nat} (k m:Nat) (e:List Nat) (d:Nat→Nat→Env) (L':Nat→Nat→Own) (g:∀ b c,JI P n X a (i+k) m K Q (d b c++E) (L' b c) Φ) (h:∀ b c,exL P n a k i e [b,c] E L (d b c)=some (d b c,L' b c,exS P n a k i e [b,c] E L):=by intros;kernel_rfl):JI P n X a i (k+m) K Q E L Φ :=
 A2e k i e 2 fun bs f=>by
  match bs,f with
  | [b,c],_ =>
   obtain ⟨R,p,o,j,l⟩:=A8z (h b c)
   exact ⟨R,L' b c,p,o,j,B9j l (g b c)⟩
theorem D1k {a:Array Oper} {i:Nat} (k m:Nat) (f:List Nat) (e:Nat→Nat→Nat→Env) (L':Nat→Nat→Nat→Own) (g:∀ b c d,JI P n X a (i+k) m K Q (e b c d++E) (L' b c d) Φ) (h:∀ b c d,exL P n a k i f [b,c,d] E L (e b c d)=some (e b c d,L' b c d,exS P n a k i f [b,c,d] E L):=by intros;kernel_rfl):JI P n X a i (k+m) K Q E L Φ :=
 A2e k i f 3 fun bs j=>by
  match bs,j with
  | [b,c,d],_ =>
   obtain ⟨R,q,p,o,l⟩:=A8z (h b c d)
   exact ⟨R,L' b c d,q,p,o,B9j l (g b c d)⟩
theorem ip' {a:Array Oper} {i:Nat} (k m:Nat) (new:Env) (g:JI P n X a (i+k) m K Q (new++E) L Φ) (h:X5 P n a k i E new=some new:=by kernel_rfl):JI P n X a i (k+m) K Q E L Φ:=ip k m new h g
theorem dp' {a:Array Oper} {i:Nat} (k m:Nat) (new:Env) (g:JD P n X a (i+k) m K (new++E) L Φ) (h:X5 P n a k i E new=some new:=by kernel_rfl):JD P n X a i (k+m) K E L Φ:=dp k m new h g
def B1a (a:Array Oper):Nat→Nat→Bool
 | 0,_=>true
 | k+1,i=>(match a[i]? with
  | some o=>!Op.turns o.op
  | none=>false)&&B1a a k (i+1)
theorem B2w {a:Array Oper} {m:Nat}:∀ (k i:Nat) (d:List Nat) {E R:Env} {L2:Own} {ps e:List (Nat×Nat)},B1a a k i=true→exN P n a k i d [] E L ps=some (R,L2,[],e)→(∀ q ∈ e,q.1=q.2) →
  JD P n X a (i+k) m K R L Φ→JD P n X a i (k+m) K E L Φ
 | 0,i,d,E,R,L2,ps,e,_,h,hq,hk=>by
  simp only [exN,Option.some.injEq,Prod.mk.injEq] at h
  obtain ⟨rfl,_,_,_⟩:=h
  rw [Nat.zero_add];exact hk
 | k+1,i,d,E,R,L2,ps,e,hqt,h,hq,hk=>by
  unfold exN at h
  unfold B1a at hqt
  simp only [Bool.and_eq_true] at hqt
  rw [Nat.add_right_comm]
  have b:JD P n X a (i+1+k) m K R L Φ:=by rw [Nat.add_assoc,Nat.add_comm 1 k];exact hk
  split at h
  ·cases h
  ·rename_i o j
   have x:Op.turns o.op=false:=by have:=hqt.1;rw [j] at this;simpa using this
   split at h
   ·rename_i hr l
    exact C4q j hr l (B2w k (i+1) d hqt.2 h hq b)
   ·rename_i hr l
    split at h
    ·rename_i v L' f u s w
     have p:∀ q ∈ s,q.1=q.2:=fun q g=>hq q (C0n k (i+1) h q (List.mem_append_left _ g))
     obtain ⟨r,t,_,c⟩:=B8v (X:=X) (Φ:=Φ) x w p
     rw [r,t] at h
     exact C0r j hr l c.det (B2w k (i+1) f hqt.2 h hq b)
    ·cases h
   ·cases h
theorem D0d {b:Array Oper} {i m:Nat} (hE:∀ a,Has a E→Has a E') (h:JD P n X b i m K E' L Φ):JD P n X b i m K E L Φ:=fun a e c d=>h a e c (hE a d)
theorem zdg {a:Array Oper} {i:Nat} (k m:Nat) (c:List Nat) (b:Env) (g:JD P n X a (i+k) m K (b++E) L Φ) (h:exL P n a k i c [] E L b=some (b,L,exS P n a k i c [] E L):=by kernel_rfl) (j:B1a a k i=true:=by kernel_rfl):JD P n X a i (k+m) K E L Φ:=by
 obtain ⟨R,l,f,d,e⟩:=A8z h
 exact B2w k i c j f d (D0d e g)
theorem znl {a:Array Oper} {i m:Nat} (L':Own) (g:JI P n X a i m K Q E L' Φ) (h:L=L':=by first|rfl|simp only [List.cons_append,List.append_assoc,List.nil_append,List.append_nil]):JI P n X a i m K Q E L Φ:=h▸g
theorem zjd {ρ:Type} {c:Operand} {x y:Code} {p:Prop} [Decidable p] {A B R:ρ} (d:ev E c=some (.bool (decide p))) (hR:(bif decide p then A else B)=R) (b:A=R→decide p=true→p→J P n X x Q E L Φ) (a:B=R→decide p=false→¬ p→J P n X y Q E L Φ):J P n X (.cond c x y) Q E L Φ :=
 W2 d (fun e=>b (bt hR e) e (of_decide_eq_true e)) (fun e=>a (bf hR e) e (of_decide_eq_false e))
theorem zjn {ρ:Type} {c:Operand} {x y:Code} {p:Prop} [Decidable p] {A B R:ρ} (d:ev E c=some (.bool (!decide p))) (hR:(bif (!decide p) then A else B)=R) (b:A=R→(!decide p)=true→¬ p→J P n X x Q E L Φ) (a:B=R→(!decide p)=false→¬ ¬ p→J P n X y Q E L Φ):J P n X (.cond c x y) Q E L Φ :=
 W2 d (fun e=>b (bt hR e) e (by simpa using e)) (fun e=>a (bf hR e) e (not_not_intro (by simpa using e)))
theorem zjb {ρ:Type} {c:Operand} {x y:Code} {b:Bool} {A B R:ρ} (f:ev E c=some (.bool b)) (hR:(bif b then A else B)=R) (d:A=R→b=true→J P n X x Q E L Φ) (a:B=R→b=false→J P n X y Q E L Φ):J P n X (.cond c x y) Q E L Φ :=
 W2 f (fun e=>d (bt hR e) e) (fun e=>a (bf hR e) e)
theorem C9y (hD:X.D=[]):(X.D.map Prod.fst).Nodup∧∀ d ∈ X.D,d.2=.deferred (some []):=by rw [hD];exact ⟨List.nodup_nil,fun d a=>by cases a⟩
theorem zer {a:Func} {α:Type} {val:α→Value} {L1:α→Own} {Φ1:α→List Pers} {v:Value} (b:X.rho=none) (hD:X.D=[]) (hr:Res P n X a E L Φ v) (x:α) (d:List.Sublist (L1 x) L) (hΦ:A5 Φ (Φ1 x)) (c:val x=v:=by rfl):JQ n X (C1z P X a α val L1 Φ1 .ret) E L Φ :=
 A9f rfl ⟨b,hD⟩ (C9y hD) hr x c d hΦ
theorem zen {a:Func} {α:Type} {val:α→Value} {L1:α→Own} {Φ1:α→List Pers} {v:Value} (b:X.rho=none) (hD:X.D=[]) (hr:Res P n X a E L Φ v) (x:α) (d:List.Sublist (L1 x) L) (hΦ:A5 Φ (Φ1 x)) (c:val x=v:=by rfl):JQ n X (C1z P X a α val L1 Φ1 .normal) E L Φ :=
 C1l rfl ⟨b,hD⟩ (C9y hD) hr x c d hΦ
theorem E2 {a:Func} {t:Nat} {val:Unit→Value} {v:Value} (b:X.rho=none) (hD:X.D=[]) (c:a.results=#[.tmp t]:=by rfl) (h:E.lookup t=some v:=by rfl) (d:val ()=v:=by rfl):JQ n X (C1z P X a Unit val (fun _=>[]) (fun _=>[]) .ret) E L Φ :=
 zer b hD (U4 c (A4 h)) () (List.nil_sublist _) A5.nil d
theorem B9v {a:Func} {t s:Nat} {val:Unit→Value} {v u:Value} (b:X.rho=none) (hD:X.D=[]) (c:a.results=#[.tmp t,.tmp s]:=by rfl) (h:E.lookup t=some v:=by rfl) (k:E.lookup s=some u:=by rfl) (d:val ()=.tuple #[v,u]:=by rfl):JQ n X (C1z P X a Unit val (fun _=>[]) (fun _=>[]) .ret) E L Φ :=
 zer b hD (V1 c (A4 h) (A4 k)) () (List.nil_sublist _) A5.nil d
theorem zai {R:Env} (c t p:Nat) {v:Value} {g b:Bool} (k:g=b) (hR:R.drop c=E:=by rfl) (j:B4i E t p (R.take c)=true:=by rfl) (f:E.lookup t=some (.bool g):=by rfl) (d:R.lookup t=some (.bool b):=by rfl) (h:R.lookup p=some v:=by rfl) {e:Array Oper} {i:Nat} {Q':Exit→Act→World→Prop}:JI P n X e i 0 (fun a w=>St n X ((p,v)::E) L Φ a w) Q' R L Φ :=
 A1 (J0 c t p k A5.refl (List.Sublist.refl _) hR j f d h)
theorem zad {R:Env} (c t p:Nat) {v:Value} {g b:Bool} (k:g=b) (hR:R.drop c=E:=by rfl) (j:B4i E t p (R.take c)=true:=by rfl) (f:E.lookup t=some (.bool g):=by rfl) (d:R.lookup t=some (.bool b):=by rfl) (h:R.lookup p=some v:=by rfl) {e:Array Oper} {i:Nat}:JD P n X e i 0 (fun a _=>a.tmps.size=n∧a.defers=X.marks∧Has a ((p,v)::E)) R L Φ :=
 B0t (D4c c t p k hR j f d h)
theorem zca {a:Array Oper} {i m:Nat} {o:Oper} {c:Call} {fv:Operand} {k:FuncId} {first cap:Array Value} {vs args:List Value} {Φ0:List Pers} {v:Value} (d:J6 P k args Φ0 v) (hΦ:A5 Φ Φ0)
  (h:JI P n X a (i+1) m K Q (Env.put E o.dst v) L Φ) (e:B1m n a i E=some o:=by rfl) (j:o.op=.call c:=by rfl) (g:c.callee=.value fv:=by rfl) (l:ev E fv=some (.func (.func k) first cap):=by rfl) (b:c.args.toList.mapM (ev E)=some vs:=by rfl) (f:(first++vs.toArray++cap).toList=args:=by rfl):JI P n X a i (m+1) K Q E L Φ :=
 ixc e (P3 d j g l b f hΦ) h
theorem zrl {b:Array Oper} {i:Nat} (k m:Nat) (c:List Nat) (a:Env) (g:JI P n X b (i+k) m K Q (a++E) L Φ) (h:exL P n b k i c [] E L a=some (a,L,exS P n b k i c [] E L):=by kernel_rfl):JI P n X b i (k+m) K Q E L Φ:=zrg k m c a L g h
theorem zcm {a:Array Oper} {i m:Nat} {o:Oper} {c:Call} {fv:Operand} {k:FuncId} {first cap:Array Value} {vs args:List Value} {Φ0:List Pers} {α:Type} {val:α→Value} {Φ1:α→List Pers}
  (d:Con P k args [] Φ0 α val (fun _=>[]) Φ1) (hΦ:A5 Φ Φ0) (h:∀ x,JI P n X a (i+1) m K Q (Env.put E o.dst (val x)) L (Φ1 x++Φ)) (e:B1m n a i E=some o:=by rfl) (j:o.op=.call c:=by rfl) (g:c.callee=.value fv:=by rfl)
  (l:ev E fv=some (.func (.func k) first cap):=by rfl) (b:c.args.toList.mapM (ev E)=some vs:=by rfl) (f:(first++vs.toArray++cap).toList=args:=by rfl):JI P n X a i (m+1) K Q E L Φ :=
 it e (I0 (L2:=L) d j g l b f hΦ (List.Perm.refl _) (fun _=>L) (fun _=>rfl)) h
theorem zia {b:Array Oper} {i:Nat} (k m t p:Nat) {g:Bool} (x:Bool) (c:g=true→JI P n X b i k (fun a w=>St n X ((p,.bool x)::E) L Φ a w) Q ((t,.bool true)::E) L Φ) (h:JI P n X b (i+k) m K Q ((p,.bool (g&&x))::E) L Φ)
  (d:E.lookup t=some (.bool g):=by rfl) (e:X5 P n b k i ((t,.bool false)::E) [(p,.bool false)]=some [(p,.bool false)]:=by kernel_rfl):JI P n X b i (k+m) K Q E L Φ:=D3p k m t p x d e c h
theorem zio {b:Array Oper} {i:Nat} (k m t p:Nat) {g:Bool} (x:Bool) (c:g=false→JI P n X b i k (fun a w=>St n X ((p,.bool x)::E) L Φ a w) Q ((t,.bool false)::E) L Φ) (h:JI P n X b (i+k) m K Q ((p,.bool (g||x))::E) L Φ)
  (d:E.lookup t=some (.bool g):=by rfl) (e:X5 P n b k i ((t,.bool true)::E) [(p,.bool true)]=some [(p,.bool true)]:=by kernel_rfl):JI P n X b i (k+m) K Q E L Φ:=ior k m t p x d e c h
theorem zda {b:Array Oper} {i:Nat} (k m t p:Nat) {g:Bool} (x:Bool) (c:g=true→JD P n X b i k (fun a _=>a.tmps.size=n∧a.defers=X.marks∧Has a ((p,.bool x)::E)) ((t,.bool true)::E) L Φ) (h:JD P n X b (i+k) m K ((p,.bool (g&&x))::E) L Φ)
  (d:E.lookup t=some (.bool g):=by rfl) (e:X5 P n b k i ((t,.bool false)::E) [(p,.bool false)]=some [(p,.bool false)]:=by kernel_rfl):JD P n X b i (k+m) K E L Φ:=D2w k m t p x d e c h
theorem zdO {b:Array Oper} {i:Nat} (k m t p:Nat) {g:Bool} (x:Bool) (c:g=false→JD P n X b i k (fun a _=>a.tmps.size=n∧a.defers=X.marks∧Has a ((p,.bool x)::E)) ((t,.bool false)::E) L Φ) (h:JD P n X b (i+k) m K ((p,.bool (g||x))::E) L Φ)
  (d:E.lookup t=some (.bool g):=by rfl) (e:X5 P n b k i ((t,.bool true)::E) [(p,.bool true)]=some [(p,.bool true)]:=by kernel_rfl):JD P n X b i (k+m) K E L Φ:=dor k m t p x d e c h
def zml (m k:Nat):Array Bool:=((List.range m).map k.testBit).toArray
theorem zhk {c:Array Oper} {d:Nat} {a:Array Bool} {b:U3} {Φs:List Pers} (i:Nat) {o:Oper} {v:Value} (listed':Array Bool) (k:c[i]?=some o) (j:H9 P X o E (b.of c i) Φs v) (h:JH P n X c d listed' K b Φs (Env.put E o.dst v) L Φ)
  (l:A5k c o E=some true:=by rfl) (e:W9 n o.dst=true:=by rfl) (f:A5r c b a i=true:=by kernel_rfl) (g:a.setIfInBounds i true=listed':=by kernel_rfl):JH P n X c (d+1) a K b Φs E L Φ :=
 D3g i _ listed' k l e f rfl g j h
theorem zhl {c:Array Oper} {d:Nat} {a:Array Bool} {b:U3} {Φs:List Pers} (i:Nat) {o:Oper} {v:Value} (Ls:Own) (listed':Array Bool) (l:c[i]?=some o) (k:H9 P X o E Ls Φs v) (h:JH P n X c d listed' K b Φs (Env.put E o.dst v) L Φ)
  (m:A5k c o E=some true:=by rfl) (f:W9 n o.dst=true:=by rfl) (g:A5r c b a i=true:=by kernel_rfl) (e:b.of c i=Ls:=by kernel_rfl) (j:a.setIfInBounds i true=listed':=by kernel_rfl):JH P n X c (d+1) a K b Φs E L Φ :=
 D3g i Ls listed' l m f g e j k h
theorem zho {c:Array Oper} {d:Nat} {a:Array Bool} {b:U3} {Φs:List Pers} (i:Nat) {o:Oper} {α:Type} {val:α→Value} {L':α→Own} {Φ':α→List Pers} (Lh:Own) (listed':Array Bool) (f:c[i]?=some o) (m:Tri P n X o E L Φ α val L' Φ') (e:∀ x,Lh.Sublist (L' x)) (hΦ':∀ x,A5 (Φ' x) Φs)
  (h:∀ x,JH P n X c d listed' K b Φs (Env.put E o.dst (val x)) (L' x) (Φ' x)) (g:A5k c o E=some true:=by rfl) (j:W9 n o.dst=true:=by rfl) (hr:Region.ready .any c a=[i]:=by kernel_rfl) (l:a.setIfInBounds i true=listed':=by kernel_rfl) (k:b.at listed'=Lh:=by kernel_rfl) :
  JH P n X c (d+1) a K b Φs E L Φ:=hone i Lh listed' f g j hr l k m e hΦ' h
theorem zhp {f:Array Oper} {c:U3} {Φs:List Pers} (is:List Nat) (d:Nat) {b:Array Bool} (a:Array Bool) (e:Env) (g:JH P n X f d a K c Φs (e++E) L Φ) (h:B5z P n f c is b E e=some (a,e):=by kernel_rfl):JH P n X f (is.length+d) b K c Φs E L Φ:=D0r is d a e h g
theorem zja {ρ:Type} {c:Operand} {x y:Code} {p q:Prop} [Decidable p] [Decidable q] {A B R:ρ} (d:ev E c=some (.bool (decide p&&decide q))) (hR:(bif (decide p&&decide q) then A else B)=R) (b:A=R→(decide p&&decide q)=true→p∧q→J P n X x Q E L Φ) (a:B=R→(decide p&&decide q)=false→¬ (p∧q)→J P n X y Q E L Φ):J P n X (.cond c x y) Q E L Φ :=
 W2 d (fun e=>b (bt hR e) e (by simpa using e)) (fun e=>a (bf hR e) e (by simpa using e))
theorem zjo {ρ:Type} {c:Operand} {x y:Code} {p q:Prop} [Decidable p] [Decidable q] {A B R:ρ} (d:ev E c=some (.bool (decide p||decide q))) (hR:(bif (decide p||decide q) then A else B)=R) (b:A=R→(decide p||decide q)=true→p∨q→J P n X x Q E L Φ) (a:B=R→(decide p||decide q)=false→¬ (p∨q)→J P n X y Q E L Φ):J P n X (.cond c x y) Q E L Φ :=
 W2 d (fun e=>b (bt hR e) e (by simpa using e)) (fun e=>a (bf hR e) e (by simpa using e))
theorem zid {b:Array Oper} {i:Nat} (k m t p:Nat) {g:Prop} [Decidable g] (x:Bool) (c:decide g=true→g→JI P n X b i k (fun a w=>St n X ((p,.bool x)::E) L Φ a w) Q ((t,.bool true)::E) L Φ) (h:JI P n X b (i+k) m K Q ((p,.bool (decide g&&x))::E) L Φ)
  (d:E.lookup t=some (.bool (decide g)):=by rfl) (f:X5 P n b k i ((t,.bool false)::E) [(p,.bool false)]=some [(p,.bool false)]:=by kernel_rfl):JI P n X b i (k+m) K Q E L Φ:=D3p k m t p x d f (fun e=>c e (of_decide_eq_true e)) h
theorem zir {b:Array Oper} {i:Nat} (k m t p:Nat) {g:Prop} [Decidable g] (x:Bool) (c:decide g=false→¬ g→JI P n X b i k (fun a w=>St n X ((p,.bool x)::E) L Φ a w) Q ((t,.bool false)::E) L Φ) (h:JI P n X b (i+k) m K Q ((p,.bool (decide g||x))::E) L Φ)
  (d:E.lookup t=some (.bool (decide g)):=by rfl) (f:X5 P n b k i ((t,.bool true)::E) [(p,.bool true)]=some [(p,.bool true)]:=by kernel_rfl):JI P n X b i (k+m) K Q E L Φ:=ior k m t p x d f (fun e=>c e (of_decide_eq_false e)) h
theorem zdd {b:Array Oper} {i:Nat} (k m t p:Nat) {g:Prop} [Decidable g] (x:Bool) (c:decide g=true→g→JD P n X b i k (fun a _=>a.tmps.size=n∧a.defers=X.marks∧Has a ((p,.bool x)::E)) ((t,.bool true)::E) L Φ) (h:JD P n X b (i+k) m K ((p,.bool (decide g&&x))::E) L Φ)
  (d:E.lookup t=some (.bool (decide g)):=by rfl) (f:X5 P n b k i ((t,.bool false)::E) [(p,.bool false)]=some [(p,.bool false)]:=by kernel_rfl):JD P n X b i (k+m) K E L Φ:=D2w k m t p x d f (fun e=>c e (of_decide_eq_true e)) h
theorem zdr {b:Array Oper} {i:Nat} (k m t p:Nat) {g:Prop} [Decidable g] (x:Bool) (c:decide g=false→¬ g→JD P n X b i k (fun a _=>a.tmps.size=n∧a.defers=X.marks∧Has a ((p,.bool x)::E)) ((t,.bool false)::E) L Φ) (h:JD P n X b (i+k) m K ((p,.bool (decide g||x))::E) L Φ)
  (d:E.lookup t=some (.bool (decide g)):=by rfl) (f:X5 P n b k i ((t,.bool true)::E) [(p,.bool true)]=some [(p,.bool true)]:=by kernel_rfl):JD P n X b i (k+m) K E L Φ:=dor k m t p x d f (fun e=>c e (of_decide_eq_false e)) h
abbrev zq {k:Nat} (q:Option Addr) (c:Nat) (b:k≤c:=by first|omega|(simp only [List.length_take,List.length_drop,List.length_append,List.length_cons,List.length_nil,List.length_set,List.length_map];omega)|(simp<;>omega)|decide) (a:k≤9223372036854775807:=by first|omega|(simp only [List.length_take,List.length_drop,List.length_append,List.length_cons,List.length_nil,List.length_set,List.length_map];omega)|(simp<;>omega)|decide):{t:Option Addr×Nat // k≤t.2∧k≤9223372036854775807}:=⟨(q,c),b,a⟩
end
end Go.Fen
set_option linter.unusedVariables false
namespace Go.Fen
open Go Go.RowKit
section
variable {P:Program} {n:Nat} {X:Cx} {K:Act→World→Prop} {Q:Exit→Act→World→Prop} {E E':Env} {L L':Own} {Φ Φ':List Pers}
theorem A3q {c:Code} {β1:Type} (F:β1→Prop×Env×Own×List Pers×Nat) (b:β1) (e:(F b).1) (f:List.Sublist (F b).2.2.1 L) (hΦ:A5 Φ (F b).2.2.2.1) (h:∀ b,(F b).1→J P n X c (Exit.then (fun a w=>∃ d,(F d).1∧(F d).2.2.2.2<(F b).2.2.2.2∧St n X (F d).2.1 (F d).2.2.1 (F d).2.2.2.1 a w) Q) (F b).2.1 (F b).2.2.1 (F b).2.2.2.1) (hE:K7 E (F b).2.1:=by repeat' first|exact trivial|refine ⟨rfl,?_⟩|refine ⟨by first|rfl|(simp only [List.length_set,List.length_append,List.length_cons,List.length_nil];rfl)|(simp;done)|(simp;omega),?_⟩):J P n X (.loop c) Q E L Φ :=
 JL1 (fun b=>(F b).1) (fun b=>(F b).2.1) (fun b=>(F b).2.2.1) (fun b=>(F b).2.2.2.1) (fun b=>(F b).2.2.2.2) b e hE f hΦ h
theorem A0y {β1:Type} {F:β1→Prop×Env×Own×List Pers×Nat} {z1:β1} (b:β1) (e:(F b).1) (hμ:(F b).2.2.2.2<(F z1).2.2.2.2) (f:List.Sublist (F b).2.2.1 L) (hΦ:A5 Φ (F b).2.2.2.1) (hE:K7 E (F b).2.1:=by repeat' first|exact trivial|refine ⟨rfl,?_⟩|refine ⟨by first|rfl|(simp only [List.length_set,List.length_append,List.length_cons,List.length_nil];rfl)|(simp;done)|(simp;omega),?_⟩):JQ n X (fun a w=>∃ c,(F c).1∧(F c).2.2.2.2<(F z1).2.2.2.2∧St n X (F c).2.1 (F c).2.2.1 (F c).2.2.2.1 a w) E L Φ :=
 fun _ _ d=>⟨b,e,hμ,d.size,d.defers,d.has.weaken (J1 hE),(d.world.sub f).foll hΦ⟩
theorem B2l {x y:Code} {β1:Type} (F:β1→Prop×Env×Own×List Pers) (c:J P n X x (Exit.then (fun a w=>∃ b,(F b).1∧St n X (F b).2.1 (F b).2.2.1 (F b).2.2.2 a w) Q) E L Φ) (d:∀ b,(F b).1→J P n X y Q (F b).2.1 (F b).2.2.1 (F b).2.2.2):J P n X (.seq x y) Q E L Φ :=
 JS1 (fun b=>(F b).1) (fun b=>(F b).2.1) (fun b=>(F b).2.2.1) (fun b=>(F b).2.2.2) c d
theorem A1d {β1:Type} {F:β1→Prop×Env×Own×List Pers} (b:β1) (e:(F b).1) (f:List.Sublist (F b).2.2.1 L) (hΦ:A5 Φ (F b).2.2.2) (hE:K7 E (F b).2.1:=by repeat' first|exact trivial|refine ⟨rfl,?_⟩|refine ⟨by first|rfl|(simp only [List.length_set,List.length_append,List.length_cons,List.length_nil];rfl)|(simp;done)|(simp;omega),?_⟩):JQ n X (fun a w=>∃ d,(F d).1∧St n X (F d).2.1 (F d).2.2.1 (F d).2.2.2 a w) E L Φ :=
 fun _ _ c=>⟨b,e,c.size,c.defers,c.has.weaken (J1 hE),(c.world.sub f).foll hΦ⟩
theorem D3w {c:Code} {β1 β2 β3 β4:Type} (F:β1→β2→β3→β4→Prop×Env×Own×List Pers×Nat) (b:β1) (d:β2) (e:β3) (f:β4) (l:(F b d e f).1) (m:List.Sublist (F b d e f).2.2.1 L) (hΦ:A5 Φ (F b d e f).2.2.2.1) (h:∀ b d e f,(F b d e f).1→J P n X c (Exit.then (fun a w=>∃ i j g k,(F i j g k).1∧(F i j g k).2.2.2.2<(F b d e f).2.2.2.2∧St n X (F i j g k).2.1 (F i j g k).2.2.1 (F i j g k).2.2.2.1 a w) Q) (F b d e f).2.1 (F b d e f).2.2.1 (F b d e f).2.2.2.1) (hE:K7 E (F b d e f).2.1:=by repeat' first|exact trivial|refine ⟨rfl,?_⟩|refine ⟨by first|rfl|(simp only [List.length_set,List.length_append,List.length_cons,List.length_nil];rfl)|(simp;done)|(simp;omega),?_⟩):J P n X (.loop c) Q E L Φ :=
 JL4 (fun b d e f=>(F b d e f).1) (fun b d e f=>(F b d e f).2.1) (fun b d e f=>(F b d e f).2.2.1) (fun b d e f=>(F b d e f).2.2.2.1) (fun b d e f=>(F b d e f).2.2.2.2) b d e f l hE m hΦ h
theorem D4e {β1 β2 β3 β4:Type} {F:β1→β2→β3→β4→Prop×Env×Own×List Pers×Nat} {z1:β1} {z2:β2} {z3:β3} {z4:β4} (e:β1) (c:β2) (d:β3) (b:β4) (l:(F e c d b).1) (hμ:(F e c d b).2.2.2.2<(F z1 z2 z3 z4).2.2.2.2) (m:List.Sublist (F e c d b).2.2.1 L) (hΦ:A5 Φ (F e c d b).2.2.2.1) (hE:K7 E (F e c d b).2.1:=by repeat' first|exact trivial|refine ⟨rfl,?_⟩|refine ⟨by first|rfl|(simp only [List.length_set,List.length_append,List.length_cons,List.length_nil];rfl)|(simp;done)|(simp;omega),?_⟩):JQ n X (fun a w=>∃ i f g j,(F i f g j).1∧(F i f g j).2.2.2.2<(F z1 z2 z3 z4).2.2.2.2∧St n X (F i f g j).2.1 (F i f g j).2.2.1 (F i f g j).2.2.2.1 a w) E L Φ :=
 fun _ _ k=>⟨e,c,d,b,l,hμ,k.size,k.defers,k.has.weaken (J1 hE),(k.world.sub m).foll hΦ⟩
theorem C8v {c:Code} {β1 β2 β3 β4 β5:Type} (F:β1→β2→β3→β4→β5→Prop×Env×Own×List Pers×Nat) (b:β1) (d:β2) (f:β3) (g:β4) (e:β5) (o:(F b d f g e).1) (p:List.Sublist (F b d f g e).2.2.1 L) (hΦ:A5 Φ (F b d f g e).2.2.2.1) (h:∀ b d f g e,(F b d f g e).1→J P n X c (Exit.then (fun a w=>∃ k m j l i,(F k m j l i).1∧(F k m j l i).2.2.2.2<(F b d f g e).2.2.2.2∧St n X (F k m j l i).2.1 (F k m j l i).2.2.1 (F k m j l i).2.2.2.1 a w) Q) (F b d f g e).2.1 (F b d f g e).2.2.1 (F b d f g e).2.2.2.1) (hE:K7 E (F b d f g e).2.1:=by repeat' first|exact trivial|refine ⟨rfl,?_⟩|refine ⟨by first|rfl|(simp only [List.length_set,List.length_append,List.length_cons,List.length_nil];rfl)|(simp;done)|(simp;omega),?_⟩):J P n X (.loop c) Q E L Φ :=
 JL5 (fun b d f g e=>(F b d f g e).1) (fun b d f g e=>(F b d f g e).2.1) (fun b d f g e=>(F b d f g e).2.2.1) (fun b d f g e=>(F b d f g e).2.2.2.1) (fun b d f g e=>(F b d f g e).2.2.2.2) b d f g e o hE p hΦ h
theorem C8d {β1 β2 β3 β4 β5:Type} {F:β1→β2→β3→β4→β5→Prop×Env×Own×List Pers×Nat} {z1:β1} {z2:β2} {z3:β3} {z4:β4} {z5:β5} (f:β1) (c:β2) (e:β3) (b:β4) (d:β5) (o:(F f c e b d).1) (hμ:(F f c e b d).2.2.2.2<(F z1 z2 z3 z4 z5).2.2.2.2) (p:List.Sublist (F f c e b d).2.2.1 L) (hΦ:A5 Φ (F f c e b d).2.2.2.1) (hE:K7 E (F f c e b d).2.1:=by repeat' first|exact trivial|refine ⟨rfl,?_⟩|refine ⟨by first|rfl|(simp only [List.length_set,List.length_append,List.length_cons,List.length_nil];rfl)|(simp;done)|(simp;omega),?_⟩):JQ n X (fun a w=>∃ j g i l k,(F j g i l k).1∧(F j g i l k).2.2.2.2<(F z1 z2 z3 z4 z5).2.2.2.2∧St n X (F j g i l k).2.1 (F j g i l k).2.2.1 (F j g i l k).2.2.2.1 a w) E L Φ :=
 fun _ _ m=>⟨f,c,e,b,d,o,hμ,m.size,m.defers,m.has.weaken (J1 hE),(m.world.sub p).foll hΦ⟩
theorem D3u {c:Code} {β1 β2 β3 β4 β5 β6:Type} (F:β1→β2→β3→β4→β5→β6→Prop×Env×Own×List Pers×Nat) (f:β1) (b:β2) (d:β3) (i:β4) (g:β5) (e:β6) (q:(F f b d i g e).1) (r:List.Sublist (F f b d i g e).2.2.1 L) (hΦ:A5 Φ (F f b d i g e).2.2.2.1) (h:∀ f b d i g e,(F f b d i g e).1→J P n X c (Exit.then (fun a w=>∃ p j o k l m,(F p j o k l m).1∧(F p j o k l m).2.2.2.2<(F f b d i g e).2.2.2.2∧St n X (F p j o k l m).2.1 (F p j o k l m).2.2.1 (F p j o k l m).2.2.2.1 a w) Q) (F f b d i g e).2.1 (F f b d i g e).2.2.1 (F f b d i g e).2.2.2.1) (hE:K7 E (F f b d i g e).2.1:=by repeat' first|exact trivial|refine ⟨rfl,?_⟩|refine ⟨by first|rfl|(simp only [List.length_set,List.length_append,List.length_cons,List.length_nil];rfl)|(simp;done)|(simp;omega),?_⟩):J P n X (.loop c) Q E L Φ :=
 JL6 (fun f b d i g e=>(F f b d i g e).1) (fun f b d i g e=>(F f b d i g e).2.1) (fun f b d i g e=>(F f b d i g e).2.2.1) (fun f b d i g e=>(F f b d i g e).2.2.2.1) (fun f b d i g e=>(F f b d i g e).2.2.2.2) f b d i g e q hE r hΦ h
theorem D3x {β1 β2 β3 β4 β5 β6:Type} {F:β1→β2→β3→β4→β5→β6→Prop×Env×Own×List Pers×Nat} {z1:β1} {z2:β2} {z3:β3} {z4:β4} {z5:β5} {z6:β6} (f:β1) (c:β2) (e:β3) (b:β4) (d:β5) (g:β6) (q:(F f c e b d g).1) (hμ:(F f c e b d g).2.2.2.2<(F z1 z2 z3 z4 z5 z6).2.2.2.2) (r:List.Sublist (F f c e b d g).2.2.1 L) (hΦ:A5 Φ (F f c e b d g).2.2.2.1) (hE:K7 E (F f c e b d g).2.1:=by repeat' first|exact trivial|refine ⟨rfl,?_⟩|refine ⟨by first|rfl|(simp only [List.length_set,List.length_append,List.length_cons,List.length_nil];rfl)|(simp;done)|(simp;omega),?_⟩):JQ n X (fun a w=>∃ l i j o m k,(F l i j o m k).1∧(F l i j o m k).2.2.2.2<(F z1 z2 z3 z4 z5 z6).2.2.2.2∧St n X (F l i j o m k).2.1 (F l i j o m k).2.2.1 (F l i j o m k).2.2.2.1 a w) E L Φ :=
 fun _ _ p=>⟨f,c,e,b,d,g,q,hμ,p.size,p.defers,p.has.weaken (J1 hE),(p.world.sub r).foll hΦ⟩
theorem D3t {c:Code} {β1 β2 β3 β4 β5 β6 β7:Type} (F:β1→β2→β3→β4→β5→β6→β7→Prop×Env×Own×List Pers×Nat) (f:β1) (b:β2) (d:β3) (j:β4) (i:β5) (e:β6) (g:β7) (s:(F f b d j i e g).1) (t:List.Sublist (F f b d j i e g).2.2.1 L) (hΦ:A5 Φ (F f b d j i e g).2.2.2.1) (h:∀ f b d j i e g,(F f b d j i e g).1→J P n X c (Exit.then (fun a w=>∃ q k p l m o r,(F q k p l m o r).1∧(F q k p l m o r).2.2.2.2<(F f b d j i e g).2.2.2.2∧St n X (F q k p l m o r).2.1 (F q k p l m o r).2.2.1 (F q k p l m o r).2.2.2.1 a w) Q) (F f b d j i e g).2.1 (F f b d j i e g).2.2.1 (F f b d j i e g).2.2.2.1) (hE:K7 E (F f b d j i e g).2.1:=by repeat' first|exact trivial|refine ⟨rfl,?_⟩|refine ⟨by first|rfl|(simp only [List.length_set,List.length_append,List.length_cons,List.length_nil];rfl)|(simp;done)|(simp;omega),?_⟩):J P n X (.loop c) Q E L Φ :=
 JL7 (fun f b d j i e g=>(F f b d j i e g).1) (fun f b d j i e g=>(F f b d j i e g).2.1) (fun f b d j i e g=>(F f b d j i e g).2.2.1) (fun f b d j i e g=>(F f b d j i e g).2.2.2.1) (fun f b d j i e g=>(F f b d j i e g).2.2.2.2) f b d j i e g s hE t hΦ h
theorem D3y {β1 β2 β3 β4 β5 β6 β7:Type} {F:β1→β2→β3→β4→β5→β6→β7→Prop×Env×Own×List Pers×Nat} {z1:β1} {z2:β2} {z3:β3} {z4:β4} {z5:β5} {z6:β6} {z7:β7} (f:β1) (c:β2) (e:β3) (b:β4) (d:β5) (g:β6) (i:β7) (s:(F f c e b d g i).1) (hμ:(F f c e b d g i).2.2.2.2<(F z1 z2 z3 z4 z5 z6 z7).2.2.2.2) (t:List.Sublist (F f c e b d g i).2.2.1 L) (hΦ:A5 Φ (F f c e b d g i).2.2.2.1) (hE:K7 E (F f c e b d g i).2.1:=by repeat' first|exact trivial|refine ⟨rfl,?_⟩|refine ⟨by first|rfl|(simp only [List.length_set,List.length_append,List.length_cons,List.length_nil];rfl)|(simp;done)|(simp;omega),?_⟩):JQ n X (fun a w=>∃ m j k q p l o,(F m j k q p l o).1∧(F m j k q p l o).2.2.2.2<(F z1 z2 z3 z4 z5 z6 z7).2.2.2.2∧St n X (F m j k q p l o).2.1 (F m j k q p l o).2.2.1 (F m j k q p l o).2.2.2.1 a w) E L Φ :=
 fun _ _ r=>⟨f,c,e,b,d,g,i,s,hμ,r.size,r.defers,r.has.weaken (J1 hE),(r.world.sub t).foll hΦ⟩
theorem zst {o:Oper} {T U:TypeId} {x y:Operand} {a b:List UInt8} (e:o.op=.binOp .add T x y U) (c:ev E x=some (.string (bs a))) (d:ev E y=some (.string (bs b))) (h:a.length+b.length≤9223372036854775807:=by first|omega|(simp only [List.length_cons,List.length_nil,List.length_append,List.length_take,List.length_drop];omega)):H9 P X o E L Φ (.string (bs (a++b))):=C6i e c d h
end
end Go.Fen
set_option linter.unusedVariables false
set_option linter.unusedSimpArgs false
namespace Go.Fen
open Go Go.RowKit
section
variable {P:Program} {n:Nat} {X:Cx} {K:Act→World→Prop} {Q:Exit→Act→World→Prop} {E E':Env} {L L':Own} {Φ Φ':List Pers}
theorem Tri.own {o:Oper} {α:Type} {val:α→Value} {L1:α→Own} {Φ1:α→List Pers} (h:Tri P n X o E L Φ α val L1 Φ1) (L':α→Own) (a:∀ x,L1 x=L' x):Tri P n X o E L Φ α val L' Φ1:=by
 obtain rfl:L1=L':=funext a
 exact h
end
end Go.Fen
set_option linter.unusedVariables false
set_option linter.unusedSimpArgs false
namespace Go.Fen
open Go Go.RowKit
section
variable {P:Program} {n:Nat} {X:Cx} {K:Act→World→Prop} {Q:Exit→Act→World→Prop} {E E':Env} {L L':Own} {Φ Φ':List Pers}
theorem A9k {T e sz ty b off dLen dCap sLen sCap TT:Nat} {a:Addr} {w:World} {cs us:List Value} (f:SlTy P T e sz) (i:w.heap[b]?=some (.cells cs.toArray TT (0,0))) (h:us.length=Nat.min sLen dLen * sz) (c:∀ j v,us[j]?=some v→w.cell? (a.add j)=some v)
  (hone:∀ v ∈ us,v.oneCell'=true) (d:off+us.length≤cs.length) :
  (Builtin.copy_ #[T,T] ty #[.slice (some ⟨b,off,none⟩) dLen dCap,.slice (some a) sLen sCap]).run P w=.ok (goInt (Nat.min sLen dLen)) (w.setRow b (Q3 cs us off).toArray):=by
 have k:=run_firstCells_some (P:=P) w sz (Nat.min sLen dLen) a sLen sCap us h c
 have g:=run_storeCells_at P b off TT us 0 cs.toArray w i (by simpa using d) hone
 simp only [Builtin.copy_,Sem.run_bind,run_underlying f.ty,Result.andThen_ok,f.run,Builtin.lenOf]
 simp [k,g,Q3,Builtin.lenOf,run_underlying f.ty,f.run]
theorem A6k {T e sz ty dLen dCap sLen sCap:Nat} {d s:Option Addr} {w:World} (a:SlTy P T e sz) (b:Nat.min sLen dLen=0) :
  (Builtin.copy_ #[T,T] ty #[.slice d dLen dCap,.slice s sLen sCap]).run P w=.ok (goInt 0) w:=by
 have c:∀ (x:Addr),(loadCells x 0).run P w=.ok #[] w:=fun x=>by simpa using run_loadCells_list (P:=P) w x [] oom
 cases d<;>cases s<;>simp [Builtin.copy_,run_underlying a.ty,a.run,Builtin.lenOf,Builtin.firstCells,b,storeCells,c]
theorem A4i {α:Type} {f:α→List Value} {sz:Nat} (a:∀ x,(f x).length=sz) (xs:List α) (k:Nat):(xs.take k).flatMap f=(xs.flatMap f).take (k * sz):=by
 induction xs generalizing k with
 | nil=>simp
 | cons x xs ih =>
  cases k with
  | zero=>simp
  | succ k =>
   rw [List.take_succ_cons,List.flatMap_cons,List.flatMap_cons,ih,Nat.succ_mul,List.take_append,a,Nat.add_sub_cancel,List.take_of_length_le (l:=f x) (by rw [a];omega)]
theorem C0t {α:Type} {f:α→List Value} {sz:Nat} (a:∀ x,(f x).length=sz) (xs:List α) (k:Nat):(xs.drop k).flatMap f=(xs.flatMap f).drop (k * sz):=by
 induction xs generalizing k with
 | nil=>simp
 | cons x xs ih =>
  cases k with
  | zero=>simp
  | succ k =>
   rw [List.drop_succ_cons,List.flatMap_cons,ih,Nat.succ_mul,List.drop_append,a,Nat.add_sub_cancel,List.drop_of_length_le (l:=f x) (by rw [a];omega),List.nil_append]
theorem B6f {α:Type} {f:α→List Value} {sz:Nat} (a:∀ x,(f x).length=sz) (xs ys:List α) (j:List Value) (l:Nat) (h:l+ys.length≤xs.length):Q3 (xs.flatMap f++j) (ys.flatMap f) (l * sz)=(xs.take l++(ys++xs.drop (l+ys.length))).flatMap f++j:=by
 have c:l * sz≤(xs.flatMap f).length:=by rw [C9 a];exact Nat.mul_le_mul_right _ opx
 have b:l * sz+ys.length * sz≤(xs.flatMap f).length:=by rw [C9 a,← Nat.add_mul];exact Nat.mul_le_mul_right _ h
 unfold Q3
 rw [C9 a ys,List.take_append_of_le_length c,List.drop_append_of_le_length b,List.flatMap_append,List.flatMap_append,A4i a,C0t a,Nat.add_mul]
 simp only [List.append_assoc]
theorem StW.vec {T:Nat} {α:Type} {f:α→List Value} {b k:Nat} {j:List Value} {xs ys:List α} {pre post:Own} {w:World} (a:StW X (pre++(vo f T ⟨some b,k,j⟩ xs++post)) Φ w):StW X (pre++(vo f T ⟨some b,k,j⟩ ys++post)) Φ (w.setRow b (ys.flatMap f++j).toArray):=by
 have d:w.heap[b]?=some (.cells (xs.flatMap f++j).toArray T (0,0)):=by
  obtain ⟨p,g⟩:=a
  exact (g.own.1 (bx b (xs.flatMap f++j) T) (List.mem_append_right _ (List.mem_append_left _ (by unfold vo;simp)))).1
 have i:(pre++(vo f T ⟨some b,k,j⟩ xs++post))[pre.length]?=some (bx b (xs.flatMap f++j) T):=by simp [vo]
 have h:=a.set (w':=w.setRow b (ys.flatMap f++j).toArray) i (setRow_heap w b _ _ T (0,0) d) (fun k c=>setRow_other w b k _ c) rfl rfl rfl oom
 have e:(pre++(vo f T ⟨some b,k,j⟩ xs++post)).set pre.length (bx b (ys.flatMap f++j) T)=pre++(vo f T ⟨some b,k,j⟩ ys++post):=by simp [vo]
 rw [← e];exact h
theorem B8o {o:Oper} {c:Call} {T e sz:Nat} {x y:Operand} {α:Type} {f:α→List Value} {r:VR} {xs ys:List α} {q:Option Addr} {m cc:Nat} {pre post:Own} (hT:SlTy P T e sz) (hf:∀ x,(f x).length=sz) (a7:∀ x,(f x).all (·.oneCell')=true)
  (ho:o.op=.call c) (hc:c.callee=.builtin .copy) (a6:c.args=#[x,y]) (a2:c.argTypes=#[T,T]) (hx:ev E x=some (vv r xs.length)) (hy:ev E y=some (.slice q m cc)) (hm:m=ys.length) (hL:L=pre++(vo f e r xs++post))
  (hq:J8 Φ (sl f q ys)) (a9:VOk sz xs.length r) :
  Tri P n X o E L Φ Unit (fun _=>.int .i64 ((min ys.length xs.length:Nat):Int)) (fun _=>pre++(vo f e r (ys.take xs.length++xs.drop ys.length)++post)) (fun _=>Φ):=by
 subst hm
 intro ac w K Q hs hk
 have s:=hs.world
 rw [hL] at s
 obtain ⟨w',d,hw'⟩:∃ w',(Builtin.copy_ #[T,T] o.type #[vv r xs.length,.slice q ys.length cc]).run P w=.ok (goInt (Nat.min ys.length xs.length)) w'∧StW X (pre++(vo f e r (ys.take xs.length++xs.drop ys.length)++post)) Φ w':=by
  obtain ⟨rq,rk,v⟩:=r
  by_cases h0:Nat.min ys.length xs.length=0
  ·refine ⟨w,by rw [h0];exact A6k hT h0,?_⟩
   have e:ys.take xs.length++xs.drop ys.length=xs:=by
    rcases Nat.eq_zero_or_pos xs.length with t | t
    ·have:=List.eq_nil_of_length_eq_zero t;subst this;simp
    ·have a5:ys.length=0:=by have h1:min ys.length xs.length=0:=h0;omega
     have:=List.eq_nil_of_length_eq_zero a5;subst this;simp
   rw [e];exact s
  ·have a3:¬ min ys.length xs.length=0:=h0
   cases rq with
   | none =>
    have h9:xs.length=0∧rk=0:=a9
    omega
   | some b =>
    obtain ⟨p,hp⟩:=s
    have s:StW X (pre++(vo f e ⟨some b,rk,v⟩ xs++post)) Φ w:=⟨p,hp⟩
    have i:=hq p hp.facts
    cases q with
    | none=>have h9:ys=[]:=i;subst h9;simp at a3
    | some a =>
     have k:A1m p a (ys.flatMap f):=i
     have hg:w.heap[b]?=some (.cells (xs.flatMap f++v).toArray e (0,0)):=(hp.own.1 (bx b (xs.flatMap f++v) e) (List.mem_append_right _ (List.mem_append_left _ (by unfold vo;simp)))).1
     have l:((ys.take xs.length).flatMap f).length=Nat.min ys.length xs.length * sz:=by rw [C9 hf,List.length_take,Nat.min_comm]
     have d:=A9k (P:=P) (ty:=o.type) (b:=b) (off:=0) (dLen:=xs.length) (dCap:=rk) (sLen:=ys.length) (sCap:=cc) (a:=a) (w:=w) (cs:=xs.flatMap f++v) (us:=(ys.take xs.length).flatMap f) hT hg l
      (fun j u z=>k.cell hp.sub (by
       rw [A4i hf,List.getElem?_take] at z
       split at z
       ·exact z
       ·cases z)) (A5s a7 _) (by rw [l,List.length_append,C9 hf];have:Nat.min ys.length xs.length≤xs.length:=Nat.min_le_right _ _;have:=Nat.mul_le_mul_right sz this;omega)
     have g:=B6f hf xs (ys.take xs.length) v 0 (by rw [List.length_take];omega)
     rw [Nat.zero_mul,List.take_zero,List.nil_append,Nat.zero_add] at g
     have hd:xs.drop (ys.take xs.length).length=xs.drop ys.length:=by
      rw [List.length_take]
      by_cases h:ys.length≤xs.length
      ·rw [Nat.min_eq_right h]
      ·rw [Nat.min_eq_left opx,List.drop_of_length_le (Nat.le_refl _),List.drop_of_length_le opx]
     rw [hd] at g
     rw [g] at d
     exact ⟨_,d,s.vec (ys:=ys.take xs.length++xs.drop ys.length)⟩
 refine A2c (by rw [ho];rfl) ?_
 unfold Oper.wp
 rw [show (execOp ac.eval o).run P w=.ok (.value (goInt (Nat.min ys.length xs.length))) w' by
  simp [execOp,ho,resolve,hc,a6,a2,C3 hs.has hx,C3 hs.has hy,invoke,builtin,d]]
 exact hk () w' hw'
theorem C6s {o:Oper} {c:Call} {T e sz:Nat} {x y:Operand} {α:Type} {f:α→List Value} {r:VR} {xs:List α} {l h dn dk:Nat} {pre post:Own} (hT:SlTy P T e sz) (hf:∀ x,(f x).length=sz) (a7:∀ x,(f x).all (·.oneCell')=true)
  (ho:o.op=.call c) (hc:c.callee=.builtin .copy) (a6:c.args=#[x,y]) (a2:c.argTypes=#[T,T]) (hx:ev E x=some (.slice (A1i (va r.q) l sz r.k) dn dk)) (hy:ev E y=some (.slice (va r.q) h r.k)) (hL:L=pre++(vo f e r xs++post)) (z:VOk sz xs.length r) (h1:l+dn=xs.length) (h2:h≤xs.length) :
  Tri P n X o E L Φ Unit (fun _=>.int .i64 ((min h dn:Nat):Int)) (fun _=>pre++(vo f e r (xs.take l++(xs.take (min h dn)++xs.drop (l+min h dn)))++post)) (fun _=>Φ):=by
 intro ac w K Q hs hk
 have v:=hs.world
 rw [hL] at v
 obtain ⟨w',d,hw'⟩:∃ w',(Builtin.copy_ #[T,T] o.type #[.slice (A1i (va r.q) l sz r.k) dn dk,.slice (va r.q) h r.k]).run P w=.ok (goInt (Nat.min h dn)) w'∧StW X (pre++(vo f e r (xs.take l++((xs.take (Nat.min h dn))++xs.drop (l+Nat.min h dn)))++post)) Φ w':=by
  obtain ⟨rq,m,s⟩:=r
  by_cases h0:Nat.min h dn=0
  ·refine ⟨w,by rw [h0];exact A6k hT h0,?_⟩
   rw [h0,List.take_zero,List.nil_append,Nat.add_zero,List.take_append_drop];exact v
  ·have al:¬ min h dn=0:=h0
   cases rq with
   | none =>
    have h9:xs.length=0∧m=0:=z
    omega
   | some b =>
    obtain ⟨p,hp⟩:=v
    have v:StW X (pre++(vo f e ⟨some b,m,s⟩ xs++post)) Φ w:=⟨p,hp⟩
    have a8:xs.length * sz+s.length=m * sz∧xs.length≤m∧m≤maxLen:=z
    have a0:A1i (va (some b)) l sz m=some ⟨b,l * sz,none⟩:=by
     unfold A1i
     rw [if_neg opx]
     simp [va,S5]
    have hg:w.heap[b]?=some (.cells (xs.flatMap f++s).toArray e (0,0)):=(hp.own.1 (bx b (xs.flatMap f++s) e) (List.mem_append_right _ (List.mem_append_left _ (by unfold vo;simp)))).1
    have ae:Nat.min h dn≤h:=Nat.min_le_left _ _
    have a5:Nat.min h dn≤dn:=Nat.min_le_right _ _
    have i:((xs.take (Nat.min h dn)).flatMap f).length=Nat.min h dn * sz:=by rw [C9 hf,List.length_take,Nat.min_eq_left opx]
    have d:=A9k (P:=P) (ty:=o.type) (b:=b) (off:=l * sz) (dLen:=dn) (dCap:=dk) (sLen:=h) (sCap:=m) (a:=⟨b,0,none⟩) (w:=w) (cs:=xs.flatMap f++s) (us:=(xs.take (Nat.min h dn)).flatMap f) hT hg i
     (fun j u t=>by
      rw [S5]
      simp only [World.cell?,hg,Nat.zero_add]
      rw [A4i hf,List.getElem?_take] at t
      split at t
      ·rw [List.getElem?_toArray,List.getElem?_append_left (List.getElem?_eq_some_iff.1 t).1];exact t
      ·cases t) (A5s a7 _) (by rw [i,List.length_append,C9 hf,← Nat.add_mul];have:=Nat.mul_le_mul_right sz (show l+Nat.min h dn≤xs.length by omega);omega)
    have g:=B6f hf xs (xs.take (Nat.min h dn)) s l (by rw [List.length_take,Nat.min_eq_left opx];omega)
    rw [List.length_take,Nat.min_eq_left (by omega:Nat.min h dn≤xs.length)] at g
    rw [g] at d
    rw [a0]
    exact ⟨_,d,v.vec (ys:=xs.take l++((xs.take (Nat.min h dn))++xs.drop (l+Nat.min h dn)))⟩
 refine A2c (by rw [ho];rfl) ?_
 unfold Oper.wp
 rw [show (execOp ac.eval o).run P w=.ok (.value (goInt (Nat.min h dn))) w' by
  simp [execOp,ho,resolve,hc,a6,a2,C3 hs.has hx,C3 hs.has hy,invoke,builtin,d]]
 exact hk () w' hw'
end
end Go.Fen
set_option linter.unusedVariables false
set_option linter.unusedSimpArgs false
namespace Go.Fen
open Go Go.RowKit
structure Rwq where
 s:Slc
 b:Bool
def B5 (r:Rwq):List Value:=[.slice r.s.q r.s.n r.s.k,.bool r.b]
section
variable {P:Program} {n:Nat} {X:Cx} {K:Act→World→Prop} {Q:Exit→Act→World→Prop} {E E':Env} {L L':Own} {Φ Φ':List Pers}
end
end Go.Fen
set_option linter.unusedVariables false
set_option linter.unusedSimpArgs false
namespace Go.Fen
open Go Go.RowKit
structure Rwc (α:Type) where
 l:List α
 b:Bool
def B7 {α:Type} (c:α→List Value) (rs:List Rwq) (xss:List (Rwc α)):Pers:=D3 c (rs.map Rwq.s) (xss.map Rwc.l)
def B4 {α:Type} (rs:List Rwq) (xss:List (Rwc α)):Prop:=rs.length=xss.length∧E3 (rs.map Rwq.s) (xss.map Rwc.l)∧rs.map Rwq.b=xss.map Rwc.b
abbrev zwq:Rwq:=⟨⟨none,0,0⟩,false⟩
abbrev zwc {α:Type}:Rwc α:=⟨[],false⟩
theorem A3g {α β:Type} (f:α→β) (xs:List α) (k:Nat) (d:α):(xs.map f).getD k (f d)=f (xs.getD k d):=by
 simp only [List.getD_eq_getElem?_getD,List.getElem?_map]
 cases xs[k]?<;>rfl
section
variable {P:Program} {n:Nat} {X:Cx} {K:Act→World→Prop} {Q:Exit→Act→World→Prop} {E E':Env} {L L':Own} {Φ Φ':List Pers} {α:Type} {c:α→List Value} {rs rs':List Rwq} {xss xss':List (Rwc α)}
theorem B8k (a:B4 rs xss) {k:Nat} (h:k<rs.length):(xss.getD k zwc).l.length≤(rs.getD k zwq).s.k∧(xss.getD k zwc).l.length≤9223372036854775807:=by
 have:=U7 a.2.1 (k:=k) (d:=(⟨none,0,0⟩:Slc)) (by simpa using h)
 rw [← A3g Rwc.l,← A3g Rwq.s];exact this
theorem q_n (a:B4 rs xss) {k:Nat} (h:k<rs.length):(rs.getD k zwq).s.n=(xss.getD k zwc).l.length:=by
 have:=Y2 a.2.1 (k:=k) (d:=(⟨none,0,0⟩:Slc)) (by simpa using h)
 rw [show (⟨none,0,0⟩:Slc)=zwq.s from rfl,A3g Rwq.s,show ([]:List α)=(zwc:Rwc α).l from rfl,A3g Rwc.l] at this
 injection this
theorem D3m (a:B4 rs xss) {k:Nat} (h:k<rs.length):(Value.slice (rs.getD k zwq).s.q (rs.getD k zwq).s.n (rs.getD k zwq).s.k)=.slice (rs.getD k zwq).s.q (xss.getD k zwc).l.length (rs.getD k zwq).s.k:=by rw [q_n a h]
theorem D3v (a:B4 rs xss) (k:Nat):(rs.getD k zwq).b=(xss.getD k zwc).b:=by
 rw [← A3g Rwq.b,← A3g Rwc.b,a.2.2]
theorem C6y (a:B4 rs xss) {k:Nat} (h:k<rs.length):(Value.agg #[.slice (rs.getD k zwq).s.q (rs.getD k zwq).s.n (rs.getD k zwq).s.k,.bool (rs.getD k zwq).b])=.agg #[.slice (rs.getD k zwq).s.q (xss.getD k zwc).l.length (rs.getD k zwq).s.k,.bool (xss.getD k zwc).b]:=by rw [q_n a h,D3v a k]
theorem C6d (a:B4 rs xss) (j:Nat) (b:Φ[j]?=some (B7 c rs xss)) {k:Nat} (h:k<rs.length):J8 Φ (sl c (rs.getD k zwq).s.q (xss.getD k zwc).l):=by
 have:=V2 a.2.1 j b (k:=k) (d:=(⟨none,0,0⟩:Slc)) (by simpa using h)
 rw [← A3g Rwc.l,← A3g Rwq.s];exact this
theorem A7g:J8 Φ (B7 c [] []):=U2
theorem D1y {r:Rwq} {x:Rwc α} (b:J8 Φ (sl c r.s.q x.l)) (a:J8 Φ (B7 c rs xss)):J8 Φ (B7 c (r::rs) (x::xss)):=A4p b a
theorem A8y (b:rs.length=xss.length) (d:J8 Φ (B7 c rs xss)) (a:J8 Φ (B7 c rs' xss')):J8 Φ (B7 c (rs++rs') (xss++xss')):=by
 unfold B7;rw [List.map_append,List.map_append];exact B4n (by simpa using b) d a
theorem D2n (k:Nat) {r:Rwq} {x:Rwc α} (b:J8 Φ (B7 c rs xss)) (a:J8 Φ (sl c r.s.q x.l)):J8 Φ (B7 c (rs.set k r) (xss.set k x)):=by
 unfold B7;rw [List.map_set,List.map_set];exact B7p k b a
theorem C9w {m:Nat}:J8 Φ (B7 c (List.replicate m zwq) (List.replicate m zwc)):=by
 unfold B7;rw [List.map_replicate,List.map_replicate];exact C2f
theorem B4.none:B4 [] ([]:List (Rwc α)):=⟨rfl,E3.none,rfl⟩
theorem B4.cons {r:Rwq} {x:Rwc α} (d:r.s.n=x.l.length∧r.s.n≤r.s.k∧x.l.length≤9223372036854775807) (c:r.b=x.b) (a:B4 rs xss):B4 (r::rs) (x::xss):=⟨by simp [a.1],E3.cons d a.2.1,by simp [c,a.2.2]⟩
theorem B4.append (b:B4 rs xss) (a:B4 rs' xss'):B4 (rs++rs') (xss++xss'):=⟨by simp [b.1,a.1],by rw [List.map_append,List.map_append];exact E3.append b.2.1 a.2.1,by rw [List.map_append,List.map_append,b.2.2,a.2.2]⟩
theorem B4.set (h:B4 rs xss) (k:Nat) {r:Rwq} {x:Rwc α} (hr:r.s.n=x.l.length∧r.s.n≤r.s.k∧x.l.length≤9223372036854775807) (a:r.b=x.b):B4 (rs.set k r) (xss.set k x):=⟨by simp [h.1],by rw [List.map_set,List.map_set];exact E3.set h.2.1 k hr,by rw [List.map_set,List.map_set,h.2.2,a]⟩
theorem B4.rep (m:Nat):B4 (List.replicate m zwq) (List.replicate m (zwc:Rwc α)):=⟨by simp,by rw [List.map_replicate,List.map_replicate];exact E3.rep m,by simp⟩
theorem C5z {o:Oper} {h:Call} {T e g:Nat} {x y:Operand} {r:VR} {rs ys:List Rwq} {xss a:List (Rwc α)} {q:Option Addr} {k m kk:Nat} {pre post:Own} (hT:ApTy P T e 2 g)
  (ho:o.op=.call h) (hc:h.callee=.builtin .append) (u:h.args=#[x,y]) (l:h.argTypes=#[T,T]) (hx:ev E x=some (vv r k)) (hk:k=xss.length) (hy:ev E y=some (.slice q m kk)) (hm:m=a.length) (hL:L=pre++(vo B5 e r rs++post))
  (hq:J8 Φ (sl B5 q ys)) (h1:J8 Φ (B7 c rs xss)) (h2:J8 Φ (B7 c ys a)) (i:B4 rs xss) (s:B4 ys a) (v:VOk 2 xss.length r) (hb:(xss.length+a.length) * g≤140737488355328) (ae:xss.length+a.length≤9223372036854775807) :
  Tri P n X o E L Φ {b:VR // VOk 2 (xss++a).length b} (fun b=>vv b.1 (xss++a).length) (fun b=>pre++(vo B5 e b.1 (rs++ys)++post)) (fun _=>B7 c (rs++ys) (xss++a)::Φ):=by
 have d:=i.1
 have e2:=s.1
 have e3:(rs++ys).length=(xss++a).length:=by simp [d,e2]
 intro ac w K Q hs hK
 refine B1p (f:=B5) (xs:=rs) (ys:=ys) hT (fun _=>rfl) (fun _=>rfl) ho hc u l (by rw [d,← hk];exact hx) hy opx hL hq (by rw [d];exact v) (by rw [d,e2];exact hb) opx ac w K Q hs fun b w' hw=>?_
 have:=hK ⟨b.1,e3▸b.2⟩ w' (by
  obtain ⟨p,j⟩:=hw
  exact ⟨p,{j with facts:=fun z t=>by rcases List.mem_cons.1 t with rfl | t;exact A8y d h1 h2 p j.facts;exact j.facts z t}⟩)
 simp only [e3]
 exact this
theorem B8m {o:Oper} {T e b l cc:Nat} {x y:Operand} (r:ApTy P T e 2 b) (p:((P.info? e).bind (·.zero)).map (·.cells)=some #[.slice none 0 0,.bool false])
  (i:o.op=.makeSlice T x y) (j:ev E x=some (.int .i64 (l:Int))) (m:ev E y=some (.int .i64 (cc:Int))) (d:l≤cc) (g:cc * b≤140737488355328) (c:cc≤9223372036854775807) :
  Tri P n X o E L Φ {a:VR // VOk 2 (List.replicate l (zwc:Rwc α)).length a} (fun a=>.slice (va a.1.q) (List.replicate l (zwc:Rwc α)).length a.1.k) (fun a=>L++(vo B5 e a.1 (List.replicate l zwq)++[])) (fun _=>Φ):=by
 have:=A8s (P:=P) (n:=n) (X:=X) (E:=E) (L:=L) (Φ:=Φ) (f:=B5) zwq r p (fun _=>rfl) i j m d g c
 have h:(List.replicate l (zwc:Rwc α)).length=(List.replicate l zwq).length:=by simp
 rw [h]
 exact this
theorem P7 {t T sz b TT:Nat} {us:List Value} (c:Ty P T sz true) (h:E.lookup t=some (.pointer (some ⟨b,0,none⟩))) (i:Nat) (d:L[i]?=some (bx b us TT)) (a:us.length=sz) :
  B1r P n X (.cell t T) E L Φ (.agg us.toArray):=L6 c h i d (by rw [List.drop_zero,← a,List.take_length]) a
end
end Go.Fen
set_option linter.unusedVariables false
set_option linter.unusedSimpArgs false
namespace Go.Fen
open Go Go.RowKit
def C9b (n:Nat) (a:Array Oper) (T mo:Nat) (b:TypeDesc) (E:Env):Nat→Nat→Nat→List MapEntry→Option (List MapEntry)
 | 0,_,_,es=>some es
 | k+1,i,clk,es=>match B1m n a i E with
  | none=>none
  | some o=>match o.dst,o.op with
   | none,.insert T' (.tmp t) kk vv=>match Nat.beq T' T&&Nat.beq t mo,ev E kk,ev E vv with
    | true,some kv,some v=>match Instr.findNow b kv es 0 with
     | some none=>C9b n a T mo b E k (i+1) (clk+1) (es++[⟨kv,v,clk⟩])
     | _=>none
    | _,_,_=>none
   | _,_=>none
section
variable {P:Program} {n:Nat} {X:Cx} {K:Act→World→Prop} {Q:Exit→Act→World→Prop} {E:Env} {Φ:List Pers}
theorem B6n {c:Array Oper} {T y e:Nat} {p:TypeDesc} {mo b m:Nat} {es':List MapEntry} (q:MapTy P T y e p) (l:E.lookup mo=some (.map (some b))) (ix:Nat):∀ (k i a:Nat) (es:List MapEntry) (L:Own),
  L[ix]?=some (b,.map es.toArray a)→C9b n c T mo p E k i a es=some es'→JI P n X c (i+k) m K Q E (L.set ix (b,.map es'.toArray (a+k))) Φ→JI P n X c i (k+m) K Q E L Φ
 | 0,i,a,es,L,hi,h,g=>by
  simp only [C9b,Option.some.injEq] at h
  subst h
  rw [Nat.zero_add]
  have:L.set ix (b,.map es.toArray (a+0))=L:=by
   apply List.ext_getElem?
   intro j
   rw [List.getElem?_set]
   split
   ·rename_i s
    subst s
    split
    ·exact hi.symm
    ·rename_i hl;rw [List.getElem?_eq_none opx]
   ·rfl
  rw [this] at g;exact g
 | k+1,i,a,es,L,hi,h,g=>by
  unfold C9b at h
  split at h
  ·cases h
  ·rename_i o u
   split at h
   ·rename_i T' t kk vv z f
    split at h
    ·rename_i kv v d r w
     split at h
     ·rename_i x
      rw [Bool.and_eq_true] at d
      obtain rfl:=Nat.eq_of_beq_eq_true d.1
      obtain rfl:=Nat.eq_of_beq_eq_true d.2
      rw [Nat.add_right_comm]
      refine it u (D7 q (.inl f) l r w ix hi (by simpa using x) rfl) fun _=>?_
      rw [z]
      refine B6n q l ix k (i+1) (a+1) (es++[⟨kv,v,a⟩]) _ ?_ h ?_
      ·rw [List.getElem?_set_self (by have:=(List.getElem?_eq_some_iff.1 hi).1;exact this)];simp
      ·rw [List.set_set,show i+1+k=i+(k+1) by omega,show a+1+k=a+(k+1) by omega];exact g
     ·cases h
    ·cases h
   ·cases h
end
end Go.Fen
set_option linter.unusedVariables false
set_option linter.unusedSimpArgs false
namespace Go.Fen
open Go Go.RowKit Go.ChangeShapes
variable {P:Program}
end Go.Fen
set_option linter.unusedVariables false
set_option linter.unusedSimpArgs false
namespace Go.Fen
open Go Go.RowKit
section
variable {P:Program} {n:Nat} {X:Cx} {K:Act→World→Prop} {Q:Exit→Act→World→Prop} {E E':Env} {L L':Own} {Φ Φ':List Pers}
theorem E3.drop {α:Type} {rs:List Slc} {xss:List (List α)} (h:E3 rs xss) (k:Nat):E3 (rs.drop k) (xss.drop k):=⟨by simp [h.1],fun i r xs hr a=>h.2 (k+i) r xs (by simpa using hr) (by simpa using a)⟩
theorem E3.take {α:Type} {rs:List Slc} {xss:List (List α)} (h:E3 rs xss) (k:Nat):E3 (rs.take k) (xss.take k):=⟨by simp [h.1],fun i r xs hr a=>by
 rw [List.getElem?_take] at hr a
 split at hr
 ·rename_i b;rw [if_pos b] at a;exact h.2 i r xs hr a
 ·cases hr⟩
theorem C5x {α:Type} {c:α→List Value} {rs:List Slc} {xss:List (List α)} (h:J8 Φ (D3 c rs xss)) (k:Nat):J8 Φ (D3 c (rs.drop k) (xss.drop k)):=fun p b i r xs hr a=>h p b (k+i) r xs (by simpa using hr) (by simpa using a)
theorem C6g {α:Type} {c:α→List Value} {rs:List Slc} {xss:List (List α)} (h:J8 Φ (D3 c rs xss)) (k:Nat):J8 Φ (D3 c (rs.take k) (xss.take k)):=fun p d i r xs hr a=>by
 rw [List.getElem?_take] at hr a
 split at hr
 ·rename_i b;rw [if_pos b] at a;exact h p d i r xs hr a
 ·cases hr
theorem B4.drop {α:Type} {rs:List Rwq} {xss:List (Rwc α)} (h:B4 rs xss) (k:Nat):B4 (rs.drop k) (xss.drop k):=⟨by simp [h.1],by rw [List.map_drop,List.map_drop];exact h.2.1.drop k,by rw [List.map_drop,List.map_drop,h.2.2]⟩
theorem B4.take {α:Type} {rs:List Rwq} {xss:List (Rwc α)} (h:B4 rs xss) (k:Nat):B4 (rs.take k) (xss.take k):=⟨by simp [h.1],by rw [List.map_take,List.map_take];exact h.2.1.take k,by rw [List.map_take,List.map_take,h.2.2]⟩
theorem B6u {α:Type} {c:α→List Value} {rs:List Rwq} {xss:List (Rwc α)} (h:J8 Φ (B7 c rs xss)) (k:Nat):J8 Φ (B7 c (rs.drop k) (xss.drop k)):=by
 unfold B7;rw [List.map_drop,List.map_drop];exact C5x h k
theorem B3m {α:Type} {c:α→List Value} {rs:List Rwq} {xss:List (Rwc α)} (h:J8 Φ (B7 c rs xss)) (k:Nat):J8 Φ (B7 c (rs.take k) (xss.take k)):=by
 unfold B7;rw [List.map_take,List.map_take];exact C6g h k
theorem C5y {o:Oper} {c:Call} {T e sz:Nat} {x y:Operand} {α:Type} {f:α→List Value} {r:VR} {xs ys:List α} {q:Option Addr} {l dn dk m cc:Nat} {pre post:Own} (hT:SlTy P T e sz) (hf:∀ x,(f x).length=sz) (ad:∀ x,(f x).all (·.oneCell')=true)
  (ho:o.op=.call c) (hc:c.callee=.builtin .copy) (ab:c.args=#[x,y]) (a7:c.argTypes=#[T,T]) (hx:ev E x=some (.slice (A1i (va r.q) l sz r.k) dn dk)) (hy:ev E y=some (.slice q m cc)) (hm:m=ys.length) (hL:L=pre++(vo f e r xs++post))
  (hq:J8 Φ (sl f q ys)) (a2:VOk sz xs.length r) (h1:l+dn=xs.length) :
  Tri P n X o E L Φ Unit (fun _=>.int .i64 ((min ys.length dn:Nat):Int)) (fun _=>pre++(vo f e r (xs.take l++(ys.take dn++xs.drop (l+min ys.length dn)))++post)) (fun _=>Φ):=by
 subst hm
 intro ac w K Q hs hk
 have hw:=hs.world
 rw [hL] at hw
 obtain ⟨w',d,hw'⟩:∃ w',(Builtin.copy_ #[T,T] o.type #[.slice (A1i (va r.q) l sz r.k) dn dk,.slice q ys.length cc]).run P w=.ok (goInt (Nat.min ys.length dn)) w'∧StW X (pre++(vo f e r (xs.take l++(ys.take dn++xs.drop (l+Nat.min ys.length dn)))++post)) Φ w':=by
  obtain ⟨rq,z,v⟩:=r
  by_cases h0:Nat.min ys.length dn=0
  ·refine ⟨w,by rw [h0];exact A6k hT h0,?_⟩
   have e0:ys.take dn=[]:=by
    have a1:min ys.length dn=0:=h0
    apply List.eq_nil_of_length_eq_zero
    rw [List.length_take];omega
   rw [h0,e0,List.nil_append,Nat.add_zero,List.take_append_drop];exact hw
  ·have a1:¬ min ys.length dn=0:=h0
   cases rq with
   | none =>
    have h9:xs.length=0∧z=0:=a2
    omega
   | some b =>
    obtain ⟨p,hp⟩:=hw
    have hw:StW X (pre++(vo f e ⟨some b,z,v⟩ xs++post)) Φ w:=⟨p,hp⟩
    have af:xs.length * sz+v.length=z * sz∧xs.length≤z∧z≤maxLen:=a2
    have a3:A1i (va (some b)) l sz z=some ⟨b,l * sz,none⟩:=by
     unfold A1i
     rw [if_neg opx]
     simp [va,S5]
    have g:=hq p hp.facts
    cases q with
    | none=>have h9:ys=[]:=g;subst h9;simp at a1
    | some a =>
     have h:A1m p a (ys.flatMap f):=g
     have hg:w.heap[b]?=some (.cells (xs.flatMap f++v).toArray e (0,0)):=(hp.own.1 (bx b (xs.flatMap f++v) e) (List.mem_append_right _ (List.mem_append_left _ (by unfold vo;simp)))).1
     have t:(ys.take dn).length=Nat.min ys.length dn:=by rw [List.length_take];exact Nat.min_comm _ _
     have s:((ys.take dn).flatMap f).length=Nat.min ys.length dn * sz:=by rw [C9 hf,t]
     have aa:Nat.min ys.length dn≤dn:=Nat.min_le_right _ _
     have d:=A9k (P:=P) (ty:=o.type) (b:=b) (off:=l * sz) (dLen:=dn) (dCap:=dk) (sLen:=ys.length) (sCap:=cc) (a:=a) (w:=w) (cs:=xs.flatMap f++v) (us:=(ys.take dn).flatMap f) hT hg s
      (fun j u hj=>h.cell hp.sub (by
       rw [A4i hf,List.getElem?_take] at hj
       split at hj
       ·exact hj
       ·cases hj)) (A5s ad _) (by rw [s,List.length_append,C9 hf,← Nat.add_mul];have:=Nat.mul_le_mul_right sz (show l+Nat.min ys.length dn≤xs.length by omega);omega)
     have i:=B6f hf xs (ys.take dn) v l (by rw [t];omega)
     rw [t] at i
     rw [i] at d
     rw [a3]
     exact ⟨_,d,hw.vec (ys:=xs.take l++(ys.take dn++xs.drop (l+Nat.min ys.length dn)))⟩
 refine A2c (by rw [ho];rfl) ?_
 unfold Oper.wp
 rw [show (execOp ac.eval o).run P w=.ok (.value (goInt (Nat.min ys.length dn))) w' by
  simp [execOp,ho,resolve,hc,ab,a7,C3 hs.has hx,C3 hs.has hy,invoke,builtin,d]]
 exact hk () w' hw'
theorem B2b {L:Own} {o:Oper} {T k e:Nat} {g:TypeDesc} {m f:Operand} {b:Nat} {j z:Value} {es:Array MapEntry} {a:Nat} (d:MapTy P T k e g) (r:o.op=.lookup T m f false) (l:ev E m=some (.map (some b))) (p:ev E f=some j)
  (i:Nat) (q:L[i]?=some (b,.map es a)) (s:Instr.findNow g j es.toList 0=some none) (v:(P.info? e).bind (·.zero)=some z):H9 P X o E L Φ z:=.of_run fun ac w h x=>by
 have n:=C0l x q
 obtain ⟨y,u,t⟩:=Option.bind_eq_some_iff.1 v
 have c:(zeroValue e).run P w=.ok z w:=by simp [zeroValue,A6t u,t]
 simp [execOp,r,C3 h l,C3 h p,Instr.lookup,run_underlying d.ty,D0x n,A7o d,A8t d s,c]
theorem Has.val {a:Act} (c:Has a E) {t:Nat} {v:Value} (d:E.lookup t=some v):Has a ((t,v)::E):=by
 intro b f e
 by_cases he:b=t
 ·subst he;simp [List.lookup] at e;subst e;exact c _ _ d
 ·have:(b == t)=false:=by simpa using he
  simp only [List.lookup,this] at e
  exact c _ _ e
theorem D2j {L:Own} {c:Code} {v:Value} (t:Nat) (d:E.lookup t=some v) (h:J P n X c Q ((t,v)::E) L Φ):J P n X c Q E L Φ:=fun a w b=>h a w ⟨b.size,b.defers,b.has.val d,b.world⟩
end
end Go.Fen
set_option linter.unusedVariables false
set_option linter.unusedSimpArgs false
namespace Go.Fen
open Go Go.RowKit
section
variable {P:Program} {n:Nat} {X:Cx} {K:Act→World→Prop} {Q:Exit→Act→World→Prop} {E E':Env} {L L':Own} {Φ Φ':List Pers}
theorem f1h {q:Pers}:J8 (q::Φ) q:=D4 0 rfl
theorem f1t {q r:Pers} (h:J8 Φ q):J8 (r::Φ) q:=fun p b=>h p fun x a=>b x (List.mem_cons_of_mem _ a)
theorem sbm {α:Type} {e:α} {A B:List α} (h:List.Sublist A B):List.Sublist (e::A) (e::B):=h.cons_cons e
theorem sba {α:Type} {v A B:List α} (h:List.Sublist A B):List.Sublist (v++A) (v++B):=List.Sublist.append (List.Sublist.refl v) h
theorem sbs {α:Type} {e:α} {A B:List α} (h:List.Sublist A B):List.Sublist A (e::B):=h.cons e
theorem sbv {α:Type} {v A B:List α} (h:List.Sublist A B):List.Sublist A (v++B):=h.trans (List.sublist_append_right v B)
def C6c (e:Nat×Obj) (L L':Own):Prop:=L.Perm (e::L')
theorem re0 {e:Nat×Obj}:C6c e (e::L) L:=List.Perm.refl _
theorem re1 {e x:Nat×Obj} (h:C6c e L L'):C6c e (x::L) (x::L'):=(List.Perm.cons x h).trans (List.Perm.swap e x L')
theorem re2 {e:Nat×Obj} {v:Own} (h:C6c e L L'):C6c e (v++L) (v++L'):=(List.Perm.append_left v h).trans List.perm_middle
def C6b (v L L':Own):Prop:=L.Perm (v++L')
theorem rv0 {v:Own}:C6b v (v++L) L:=List.Perm.refl _
theorem rv1 {x:Nat×Obj} {v:Own} (h:C6b v L L'):C6b v (x::L) (x::L'):=(List.Perm.cons x h).trans List.perm_middle.symm
theorem rv2 {v u:Own} (h:C6b v L L'):C6b v (u++L) (u++L'):=(List.Perm.append_left u h).trans (B7m u v L')
def PkP (L L0 L2:Own):Prop:=L.Perm (L0++L2)
theorem pk0:PkP L [] L:=List.Perm.refl _
theorem pkc {e:Nat×Obj} {l L2:Own} (h:C6c e L L') (k:PkP L' l L2):PkP L (e::l) L2:=h.trans (List.Perm.cons e k)
theorem pkv {v l L2:Own} (h:C6b v L L') (k:PkP L' l L2):PkP L (v++l) L2:=by
 unfold PkP;rw [List.append_assoc];exact h.trans (List.Perm.append_left v k)
def SrP (M L:Own):Prop:=M.Perm L
def InP (v L L':Own):Prop:=(v++L).Perm L'
theorem sr0:SrP [] []:=List.Perm.refl _
theorem sr1 {e:Nat×Obj} {M:Own} (h:SrP M L):SrP (e::M) (e::L):=List.Perm.cons e h
theorem sr2 {v M:Own} (h:SrP M L) (k:InP v L L'):SrP (v++M) L':=(List.Perm.append_left v h).trans k
theorem sr3 {M:Own}:SrP M M:=List.Perm.refl _
theorem in1 {v:Own} {e:Nat×Obj} (h:InP v L L'):InP v (e::L) (e::L'):=List.perm_middle.trans (List.Perm.cons e h)
theorem in0 {v:Own}:InP v L (v++L):=List.Perm.refl _
theorem sr4 {M M':Own} (e:M=M') (h:SrP M' L):SrP M L:=e▸h
def C2b (n:Nat) (a:Array Oper) (i:Nat) (E:Env):Option (FuncId×List Value×Option Nat) :=
 match B1m n a i E with
 | some o=>match o.op with
  | .call c=>match c.callee with
   | .value fv=>match ev E fv,c.args.toList.mapM (ev E) with
    | some (.func (.func k) first cap),some vs=>some (k,(first++vs.toArray++cap).toList,o.dst)
    | _,_=>none
   | _=>none
  | _=>none
 | none=>none
theorem B1e {a:Array Oper} {i:Nat} {k:FuncId} {args:List Value} {d:Option Nat} (h:C2b n a i E=some (k,args,d)) :
  ∃ o c b first cap e,B1m n a i E=some o∧o.op=.call c∧c.callee=.value b∧ev E b=some (.func (.func k) first cap)∧c.args.toList.mapM (ev E)=some e∧(first++e.toArray++cap).toList=args∧o.dst=d:=by
 unfold C2b at h
 split at h
 ·rename_i o g
  split at h
  ·rename_i c f
   split at h
   ·rename_i b j
    split at h
    ·rename_i p first cap e m l
     simp only [Option.some.injEq,Prod.mk.injEq] at h
     obtain ⟨rfl,rfl,rfl⟩:=h
     exact ⟨o,c,b,first,cap,e,g,f,j,m,l,rfl,rfl⟩
    ·cases h
   ·cases h
  ·cases h
 ·cases h
theorem zv {a:Array Oper} {i m:Nat} {k:FuncId} {args:List Value} {d:Option Nat} {Φ0:List Pers} {v:Value} (g:C2b n a i E=some (k,args,d)) (b:J6 P k args Φ0 v)
  (h:JI P n X a (i+1) m K Q (Env.put E d v) L Φ) (hΦ:A5 Φ Φ0:=by first|exact A5.nil|exact A5.refl|(repeat' first|with_reducible exact A5.nil|with_reducible refine A5.con1 ?_ ?_|with_reducible exact f1h|with_reducible refine f1t ?_|exact A7r|exact U2|exact A7g);done|(repeat' first|exact A5.nil|refine A5.con1 ?_ ?_|exact f1h|refine f1t ?_|exact A7r|exact U2|exact A7g)):JI P n X a i (m+1) K Q E L Φ:=by
 obtain ⟨o,c,r,first,cap,s,j,p,l,e,q,f,rfl⟩:=B1e g
 exact ixc j (P3 b p l e q f hΦ) h
theorem zvd {a:Array Oper} {i m:Nat} {k:FuncId} {args:List Value} {d:Option Nat} {Φ0:List Pers} {v:Value} (g:C2b n a i E=some (k,args,d)) (b:J6 P k args Φ0 v)
  (h:JD P n X a (i+1) m K (Env.put E d v) L Φ) (hΦ:A5 Φ Φ0:=by first|exact A5.nil|exact A5.refl|(repeat' first|with_reducible exact A5.nil|with_reducible refine A5.con1 ?_ ?_|with_reducible exact f1h|with_reducible refine f1t ?_|exact A7r|exact U2|exact A7g);done|(repeat' first|exact A5.nil|refine A5.con1 ?_ ?_|exact f1h|refine f1t ?_|exact A7r|exact U2|exact A7g)):JD P n X a i (m+1) K E L Φ:=by
 obtain ⟨o,c,r,first,cap,s,j,p,l,e,q,f,rfl⟩:=B1e g
 exact ddc j (P3 b p l e q f hΦ) h
theorem zc {a:Array Oper} {i m:Nat} {k:FuncId} {args:List Value} {d:Option Nat} {L0 L2:Own} {Φ0:List Pers} {α:Type} {val:α→Value} {L1:α→Own} {Φ1:α→List Pers} {L3:α→Own} {Φ3:α→List Pers}
  (j:C2b n a i E=some (k,args,d)) (b:Con P k args L0 Φ0 α val L1 Φ1) (h:∀ x,JI P n X a (i+1) m K Q (Env.put E d (val x)) (L3 x) (Φ3 x))
  (p:PkP L L0 L2:=by repeat' first|with_reducible exact pk0|with_reducible apply pkc|with_reducible apply pkv|with_reducible exact re0|with_reducible exact rv0|with_reducible apply re1|with_reducible apply re2|with_reducible apply rv1|with_reducible apply rv2)
  (e:∀ x,SrP (L1 x++L2) (L3 x):=by
   intro _
   refine sr4 (by first|(simp only [List.cons_append,List.nil_append,List.append_assoc];exact rfl)|exact rfl) ?_
   repeat' first|with_reducible exact sr0|with_reducible apply sr1|with_reducible apply sr2|with_reducible apply in1|with_reducible exact in0|exact sr3)
  (hΦ:A5 Φ Φ0:=by first|exact A5.nil|exact A5.refl|(repeat' first|with_reducible exact A5.nil|with_reducible refine A5.con1 ?_ ?_|with_reducible exact f1h|with_reducible refine f1t ?_|exact A7r|exact U2|exact A7g);done|(repeat' first|exact A5.nil|refine A5.con1 ?_ ?_|exact f1h|refine f1t ?_|exact A7r|exact U2|exact A7g))
  (hΦ3:∀ x,Φ1 x++Φ=Φ3 x:=by intro _;first|exact List.nil_append _|(simp only [List.nil_append,List.cons_append];exact rfl)|exact rfl):JI P n X a i (m+1) K Q E L Φ:=by
 obtain ⟨o,c,t,first,cap,u,l,r,q,f,s,g,rfl⟩:=B1e j
 obtain rfl:(fun x=>Φ1 x++Φ)=Φ3:=funext hΦ3
 exact it l (I4 b r q f s g hΦ p L3 e) h
theorem om_ {p:Prop} (h:p:=by first|omega|(simp only [List.length_take,List.length_drop,List.length_append,List.length_cons,List.length_nil,List.length_set,List.length_map,List.length_replicate];omega)|decide|assumption|(dsimp only;omega)):p:=h
abbrev un {α β ρ:Type} (f:α→β→ρ) (x:α×β):ρ:=match x with | (a,b)=>f a b
theorem sb_ {A B:Own} (h:List.Sublist A B:=by
   first
    | exact List.nil_sublist _
    | exact List.Sublist.refl _
    | (repeat' first | with_reducible exact List.nil_sublist _ | with_reducible exact List.Sublist.refl _ | with_reducible refine sbm ?_ | with_reducible refine sba ?_ | with_reducible refine sbs ?_ | with_reducible refine sbv ?_);done
    | (repeat' first | exact List.nil_sublist _ | exact List.Sublist.refl _ | refine sbm ?_ | refine sba ?_ | refine sbs ?_ | refine sbv ?_);done
    | (simp only [List.length_set];repeat' first | exact List.nil_sublist _ | exact List.Sublist.refl _ | refine sbm ?_ | refine sba ?_ | refine sbs ?_ | refine sbv ?_);done):List.Sublist A B:=h
theorem fo_ {A B:List Pers} (h:A5 A B:=by first|exact A5.nil|exact A5.refl|(repeat' first|with_reducible exact A5.nil|with_reducible refine A5.con1 ?_ ?_|with_reducible exact f1h|with_reducible refine f1t ?_|exact A7r|exact U2|exact A7g);done|(repeat' first|exact A5.nil|refine A5.con1 ?_ ?_|exact f1h|refine f1t ?_|exact A7r|exact U2|exact A7g)):A5 A B:=h
def D2a:Nat→List Value→Env
 | _,[]=>[]
 | i,v::l=>(i,v)::D2a (i+1) l
theorem B7g:∀ (xs:List Value) (k j:Nat),((List.range' k xs.length).zip xs).lookup (k+j)=xs[j]?
 | [],k,j=>rfl
 | v::xs,k,j=>by
  simp only [List.length_cons,List.range'_succ,List.zip_cons_cons,List.lookup_cons]
  cases j with
  | zero=>simp
  | succ j =>
   have e:(k+(j+1) == k)=false:=by simp
   rw [e,show k+(j+1)=(k+1)+j by omega]
   simpa using B7g xs (k+1) j
theorem obq {p:Prop} (h:p:=by simp;omega):p:=h
theorem B3x {A:Env}:∀ (l:List Value) (k:Nat),(∀ j,j<l.length→A.lookup (k+j)=l[j]?)→K7 A (D2a k l)
 | [],_,_=>trivial
 | v::l,k,h=>⟨by simpa using h 0 oom,B3x l (k+1) fun j a=>by
   have:=h (j+1) obq
   rw [show k+(j+1)=k+1+j by omega] at this
   simpa using this⟩
theorem zce {f:FuncId} {a:Func} {c:Code} {args:List Value} {L0:Own} {Φ0:List Pers} {α:Type} {val:α→Value} {L1:α→Own} {Φ1:α→List Pers} (i:P.funcs[f]?=some a)
  (h:∀ X:Cx,X.M=L0.map Prod.fst→X.rho=none→X.D=[]→J P n X c (C1z P X a α val L1 Φ1) (D2a 0 args) L0 Φ0) (e:a.body=some c:=by rfl) (g:a.ntmps=n:=by rfl)
  (b : (a.name == "runtime.NumGoroutine") = false := by kernel_rfl) (d : Nat.ble args.length n = true := by rfl) : Con P f args L0 Φ0 α val L1 Φ1 :=
 C7j i e b g d _ (B3x args 0 fun j k=>by rw [List.range_eq_range',B7g]) h
theorem pp0 {a:Array Oper} {i:Nat} {m:Nat} (k:Nat) (h:X5 P n a k i E []=some []) (g:JI P n X a (i+k) m K Q ([]++E) L Φ):JI P n X a i (m+k) K Q E L Φ:=Nat.add_comm k m▸ip k m _ h g
theorem pp1 {a:Array Oper} {i:Nat} {m:Nat} (k b:Nat) {c:Value} (h:X5 P n a k i E [(b,c)]=some [(b,c)]) (g:JI P n X a (i+k) m K Q ([(b,c)]++E) L Φ):JI P n X a i (m+k) K Q E L Φ:=Nat.add_comm k m▸ip k m _ h g
theorem pd1 {a:Array Oper} {i:Nat} {m:Nat} (k b:Nat) {c:Value} (h:X5 P n a k i E [(b,c)]=some [(b,c)]) (g:JD P n X a (i+k) m K ([(b,c)]++E) L Φ):JD P n X a i (m+k) K E L Φ:=Nat.add_comm k m▸dp k m _ h g
theorem pl1 {a:Array Oper} {i:Nat} {m:Nat} (k:Nat) (b:List Nat) (c:Nat) {d:Value} (h:exL P n a k i b [] E L [(c,d)]=some ([(c,d)],L,exS P n a k i b [] E L)) (g:JI P n X a (i+k) m K Q ([(c,d)]++E) L Φ):JI P n X a i (m+k) K Q E L Φ:=Nat.add_comm k m▸zrl k m b _ g h
theorem pg1 {a:Array Oper} {i:Nat} {m:Nat} (k:Nat) (b:List Nat) (c:Nat) {d:Value} (h:exL P n a k i b [] E L [(c,d)]=some ([(c,d)],L,exS P n a k i b [] E L)) (g:JD P n X a (i+k) m K ([(c,d)]++E) L Φ) (e:B1a a k i=true:=by kernel_rfl):JD P n X a i (m+k) K E L Φ:=Nat.add_comm k m▸zdg k m b _ g h e
theorem pp2 {a:Array Oper} {i:Nat} {m:Nat} (k b c:Nat) {d e:Value} (h:X5 P n a k i E [(b,d),(c,e)]=some [(b,d),(c,e)]) (g:JI P n X a (i+k) m K Q ([(b,d),(c,e)]++E) L Φ):JI P n X a i (m+k) K Q E L Φ:=Nat.add_comm k m▸ip k m _ h g
theorem pd2 {a:Array Oper} {i:Nat} {m:Nat} (k b c:Nat) {d e:Value} (h:X5 P n a k i E [(b,d),(c,e)]=some [(b,d),(c,e)]) (g:JD P n X a (i+k) m K ([(b,d),(c,e)]++E) L Φ):JD P n X a i (m+k) K E L Φ:=Nat.add_comm k m▸dp k m _ h g
theorem pl2 {a:Array Oper} {i:Nat} {m:Nat} (k:Nat) (b:List Nat) (c d:Nat) {e f:Value} (h:exL P n a k i b [] E L [(c,e),(d,f)]=some ([(c,e),(d,f)],L,exS P n a k i b [] E L)) (g:JI P n X a (i+k) m K Q ([(c,e),(d,f)]++E) L Φ):JI P n X a i (m+k) K Q E L Φ:=Nat.add_comm k m▸zrl k m b _ g h
theorem pg2 {a:Array Oper} {i:Nat} {m:Nat} (k:Nat) (b:List Nat) (c d:Nat) {e f:Value} (h:exL P n a k i b [] E L [(c,e),(d,f)]=some ([(c,e),(d,f)],L,exS P n a k i b [] E L)) (g:JD P n X a (i+k) m K ([(c,e),(d,f)]++E) L Φ) (j:B1a a k i=true:=by kernel_rfl):JD P n X a i (m+k) K E L Φ:=Nat.add_comm k m▸zdg k m b _ g h j
theorem pp3 {a:Array Oper} {i:Nat} {m:Nat} (k b d c:Nat) {f j e:Value} (h:X5 P n a k i E [(b,f),(d,j),(c,e)]=some [(b,f),(d,j),(c,e)]) (g:JI P n X a (i+k) m K Q ([(b,f),(d,j),(c,e)]++E) L Φ):JI P n X a i (m+k) K Q E L Φ:=Nat.add_comm k m▸ip k m _ h g
theorem pd3 {a:Array Oper} {i:Nat} {m:Nat} (k b d c:Nat) {f j e:Value} (h:X5 P n a k i E [(b,f),(d,j),(c,e)]=some [(b,f),(d,j),(c,e)]) (g:JD P n X a (i+k) m K ([(b,f),(d,j),(c,e)]++E) L Φ):JD P n X a i (m+k) K E L Φ:=Nat.add_comm k m▸dp k m _ h g
theorem pl3 {a:Array Oper} {i:Nat} {m:Nat} (k:Nat) (b:List Nat) (c e d:Nat) {j l f:Value} (h:exL P n a k i b [] E L [(c,j),(e,l),(d,f)]=some ([(c,j),(e,l),(d,f)],L,exS P n a k i b [] E L)) (g:JI P n X a (i+k) m K Q ([(c,j),(e,l),(d,f)]++E) L Φ):JI P n X a i (m+k) K Q E L Φ:=Nat.add_comm k m▸zrl k m b _ g h
theorem pg3 {a:Array Oper} {i:Nat} {m:Nat} (k:Nat) (b:List Nat) (c e d:Nat) {j l f:Value} (h:exL P n a k i b [] E L [(c,j),(e,l),(d,f)]=some ([(c,j),(e,l),(d,f)],L,exS P n a k i b [] E L)) (g:JD P n X a (i+k) m K ([(c,j),(e,l),(d,f)]++E) L Φ) (o:B1a a k i=true:=by kernel_rfl):JD P n X a i (m+k) K E L Φ:=Nat.add_comm k m▸zdg k m b _ g h o
theorem pp4 {a:Array Oper} {i:Nat} {m:Nat} (k b d c o:Nat) {l j e f:Value} (h:X5 P n a k i E [(b,l),(d,j),(c,e),(o,f)]=some [(b,l),(d,j),(c,e),(o,f)]) (g:JI P n X a (i+k) m K Q ([(b,l),(d,j),(c,e),(o,f)]++E) L Φ):JI P n X a i (m+k) K Q E L Φ:=Nat.add_comm k m▸ip k m _ h g
def pv (q:Option Nat):Value:=match q with | none=>.pointer none | some b=>pt b 0
theorem B0u {b:Array Oper} {i m:Nat} {v:Value} (t:Nat) (d:E.lookup t=some v) (h:JI P n X b i m K Q ((t,v)::E) L Φ):JI P n X b i m K Q E L Φ:=fun a w c=>h a w ⟨c.size,c.defers,c.has.val d,c.world⟩
theorem sR_ {id:Nat} {c:Array Oper} {y:Code} {m:Nat} (d:c.size=m) (h:JI P n X c 0 m (fun a w=>y.wpIn (FW X.rho) 0 P Q a w) (Exit.then (fun a w=>y.wpIn (FW X.rho) 0 P Q a w) Q) E L Φ):J P n X (.seq (.region id c false) y) Q E L Φ:=sr m d h
class BP (b:Bool) (p:outParam Prop):Prop where
 iff:b=true ↔ p
instance (priority:=low) (b:Bool):BP b (b=true):=⟨Iff.rfl⟩
instance (p:Prop) [Decidable p]:BP (decide p) p:=⟨decide_eq_true_iff⟩
instance (a b:Bool) (p q:Prop) [BP a p] [BP b q]:BP (a&&b) (p∧q):=⟨by rw [Bool.and_eq_true,BP.iff (b:=a),BP.iff (b:=b)]⟩
instance (a b:Bool) (p q:Prop) [BP a p] [BP b q]:BP (a||b) (p∨q):=⟨by rw [Bool.or_eq_true,BP.iff (b:=a),BP.iff (b:=b)]⟩
instance (a:Bool) (p:Prop) [BP a p]:BP (!a) (¬ p):=⟨by rw [Bool.not_eq_true',← BP.iff (b:=a),Bool.not_eq_true]⟩
class BR (c:Bool) (p:Prop) (r:outParam Prop):Prop where
 iff:(c=true→(r ↔ p))∧(c=false→(r ↔ ¬ p))
theorem ozw {p:Prop} (h:p:=by decide):p:=h
instance (p:Prop):BR true p p:=⟨⟨fun _=>Iff.rfl,fun h=>absurd h ozw⟩⟩
instance (p:Prop):BR false p (¬ p):=⟨⟨fun h=>absurd h ozw,fun _=>Iff.rfl⟩⟩
theorem bq_ {b c:Bool} {p r:Prop} (h:b=c) [BP b p] [BR c p r]:r:=by
 subst h
 cases hb:b with
 | true=>exact ((BR.iff (c:=b) (p:=p) (r:=r)).1 hb).2 ((BP.iff (b:=b)).1 hb)
 | false=>exact ((BR.iff (c:=b) (p:=p) (r:=r)).2 hb).2 fun a=>by rw [(BP.iff (b:=b)).2 a] at hb;cases hb
end
end Go.Fen
set_option linter.unusedVariables false
namespace Go.Fen
open Go Go.RowKit
section
variable {Φ:List Pers} {α:Type} {c:α→List Value} {rs ys:List Rwq} {xss yss:List (Rwc α)}
theorem C3h {β:Type} (a b:List β) (l:Nat) (h:l≤a.length):(a.take l++(b.take (a.length - l)++a.drop (l+min b.length (a.length - l)))).length=a.length:=by
 simp only [List.length_append,List.length_take,List.length_drop];omega
theorem B4.copy (h:B4 rs xss) (k:B4 ys yss) (l:Nat):B4 (rs.take l++(ys.take (rs.length - l)++rs.drop (l+min ys.length (rs.length - l)))) (xss.take l++(yss.take (xss.length - l)++xss.drop (l+min yss.length (xss.length - l)))):=by
 rw [h.1,k.1];exact B4.append (B4.take h l) (B4.append (B4.take k _) (B4.drop h _))
theorem B4.copyd (h:B4 rs xss) (k:B4 ys yss) (l d:Nat):B4 (rs.take l++(ys.take d++rs.drop (l+min ys.length d))) (xss.take l++(yss.take d++xss.drop (l+min yss.length d))):=by
 rw [k.1];exact B4.append (B4.take h l) (B4.append (B4.take k _) (B4.drop h _))
theorem C8w (h:B4 rs xss) (k:B4 ys yss) (l d:Nat) (a:J8 Φ (B7 c rs xss)) (b:J8 Φ (B7 c ys yss)):J8 Φ (B7 c (rs.take l++(ys.take d++rs.drop (l+min ys.length d))) (xss.take l++(yss.take d++xss.drop (l+min yss.length d)))):=by
 rw [k.1];exact A8y (B4.take h l).1 (B3m a l) (A8y (B4.take k _).1 (B3m b _) (B6u a _))
theorem C1g {P:Program} {i:Nat} {X:Cx} {E:Env} {L:Own} {o:Oper} {a:Call} {T e sz:Nat} {x y:Operand} {β:Type} {f:β→List Value} {r:VR} {n2:Nat} {z:β} {zs:List β} {q:Option Addr} {m cc:Nat} {pre post:Own} (u:SlTy P T e sz) (s:∀ x,(f x).length=sz) (d:∀ x,(f x).all (·.oneCell')=true)
  (w:o.op=.call a) (l:a.callee=.builtin .copy) (c:a.args=#[x,y]) (b:a.argTypes=#[T,T]) (hx:ev E x=some (vv r (List.replicate n2 z).length)) (hy:ev E y=some (.slice q m cc)) (j:m=zs.length) (t:L=pre++(vo f e r (List.replicate n2 z)++post))
  (p:J8 Φ (sl f q zs)) (g:VOk sz (List.replicate n2 z).length r) (k:zs.length=n2) :
  Tri P i X o E L Φ Unit (fun _=>.int .i64 ((min zs.length (List.replicate n2 z).length:Nat):Int)) (fun _=>pre++(vo f e r zs++post)) (fun _=>Φ):=by
 have h:=B8o (P:=P) (n:=i) (X:=X) (E:=E) u s d w l c b hx hy j t p g
 have v:zs.take (List.replicate n2 z).length++(List.replicate n2 z).drop zs.length=zs:=by subst k;simp
 rw [v] at h;exact h
theorem Con.addf {P:Program} {f:FuncId} {args:List Value} {L0:Own} {Φ0:List Pers} {β:Type} {val:β→Value} {L1:β→Own} {Φ1:β→List Pers} (h:Con P f args L0 Φ0 β val L1 Φ1) (Ψ:List Pers) (q:Pers) (g:J8 Ψ q):Con P f args L0 (Ψ++Φ0) β val L1 (fun x=>q::Φ1 x):=by
 refine ⟨h.1,fun w p c d i=>?_⟩
 refine (h.2 w p (fun z b=>c z (List.mem_append_right _ b)) d i).mono fun e w' ⟨x,j,k,a⟩=>⟨x,j,k,⟨fun z b=>?_,a.sub,a.le,a.dom,a.own,a.may,a.kept,a.res⟩⟩
 rcases List.mem_cons.1 b with rfl | b
 ·exact g k fun y l=>y.mono a.le (c y (List.mem_append_left _ l))
 ·exact a.facts z b
theorem Con.vcast {P:Program} {f:FuncId} {args:List Value} {L0:Own} {Φ0:List Pers} {β:Type} {val val':β→Value} {L1:β→Own} {Φ1:β→List Pers} (h:Con P f args L0 Φ0 β val L1 Φ1) (e:∀ x,val x=val' x):Con P f args L0 Φ0 β val' L1 Φ1:=by
 obtain rfl:val=val':=funext e
 exact h
theorem Tri.addf {P:Program} {n:Nat} {X:Cx} {o:Oper} {E:Env} {L:Own} {β:Type} {val:β→Value} {L':β→Own} (h:Tri P n X o E L Φ β val L' (fun _=>Φ)) (q:Pers) (d:J8 Φ q):Tri P n X o E L Φ β val L' (fun _=>q::Φ) :=
 fun a w K Q b c=>h a w K Q b fun x w' e=>c x w' (e.foll (A5.con1 d A5.refl))
end
end Go.Fen
set_option linter.unusedVariables false
set_option linter.unusedSimpArgs false
namespace Go.Proofs.YtkdgfkfbljdgmaaGreatDoor
open Go Go.Fen
theorem B4w (w:World) :
  CallsD Tryz.prog 168 #[] (.panicking [{v:=A0u,recovered:=false}]) w fun e u' w' =>
   e=.returned (.tuple #[])∧u'=.panicking [{v:=A0u,recovered:=true}]∧w'=w:=by
 refine callsD_of_wpS Tryz.func168 rfl fun b cs a=>?_
 apply wpS_seq
 apply wpS_region
 simp [wpOpsS,go_sem,recoverD,a,Tryz.ntmps168,Exit.thenS]
 apply wpS_seq
 apply wpS_region
 simp [wpOpsS,go_sem,recoverD,a,Tryz.ntmps168,Exit.thenS]
 refine wpS_cond (t:=true) (by simp [Act.eval,Array.replicate]) ?_
 simp only [if_true]
 apply wpS_region
 simp [wpOpsS,go_sem,bodyPostS,results,Tryz.results168,Instr.typeAssert]
theorem C3w (w:World) :
  CallsD Tryz.prog 168 #[] .returning w fun e u' w'=>e=.returned (.tuple #[])∧u'=.returning∧w'=w:=by
 refine callsD_of_wpS Tryz.func168 rfl fun b cs a=>?_
 apply wpS_seq
 apply wpS_region
 simp [wpOpsS,go_sem,recoverD,a,Tryz.ntmps168,Exit.thenS]
 apply wpS_seq
 apply wpS_region
 simp [wpOpsS,go_sem,recoverD,a,Tryz.ntmps168,Exit.thenS]
 refine wpS_cond (t:=false) (by simp [Act.eval,Array.replicate]) ?_
 simp only [Bool.false_eq_true,if_false]
 refine wpS_of_wp (wp_skip ?_)
 cases b
 simp_all [bodyPostS,results,Tryz.results168]
def B8s (R:Option (List UInt8)):List UInt8×Bool:=match R with | some s=>(s,true) | none=>([],false)
theorem D1w {k:FuncId} {cap:List Value} {L0:Fen.Own} {Φ0:List Pers} (R:Option (List UInt8)) (h:B7x Tryz.prog k cap L0 Φ0 A0u R (fun s=>.string (bs s))) :
  Con Tryz.prog 102 [.func (.func k) #[] cap.toArray] L0 Φ0 Unit (fun _=>.tuple #[.string (bs (B8s R).1),.bool (B8s R).2]) (fun _=>[]) (fun _=>[]):=by
 refine ⟨⟨by kernel_rfl⟩,fun w b n j o=>?_⟩
 have i:=h.2 w b n j o
 have l:=h.1
 have m:∀ w:World,(callFunc k cap.toArray).run Tryz.prog w=.ok (.enter k cap.toArray) w:=fun w=>A2f l _ w
 cases R with
 | none =>
  have a:Calls Tryz.prog k cap.toArray w fun e w'=>e=.panicked [{v:=A0u,recovered:=false}]∧StW (cx w b (L0.map Prod.fst)) [] [] w':=i.mono fun e w' ⟨g,d⟩=>⟨d,g⟩
  go_enter_defers Tryz.func102,Tryz.ntmps102
  go_wp2_with (refine a.mono ?_;rintro e w' ⟨rfl,hw⟩)
  refine leaves_cons (f:=168) (args:=#[]) oom (by simp [go_sem]) ?_
  refine (B4w _).mono ?_
  rintro e u' c ⟨rfl,rfl,rfl⟩
  simpa [Leaves,settle,results,Tryz.results102,go_sem,B8s] using hw
 | some s =>
  have a:Calls Tryz.prog k cap.toArray w fun e w'=>e=.returned (.string (bs s))∧StW (cx w b (L0.map Prod.fst)) [] [] w':=i.mono fun e w' ⟨g,d⟩=>⟨d,g⟩
  go_enter_defers Tryz.func102,Tryz.ntmps102
  go_wp2_with (refine a.mono ?_;rintro e w' ⟨rfl,hw⟩)
  refine leaves_cons (f:=168) (args:=#[]) oom (by simp [go_sem]) ?_
  refine (C3w _).mono ?_
  rintro e u' c ⟨rfl,rfl,rfl⟩
  simpa [Leaves,settle,results,Tryz.results102,go_sem,B8s] using hw
end Go.Proofs.YtkdgfkfbljdgmaaGreatDoor
set_option linter.unusedVariables false
set_option linter.unusedSimpArgs false
namespace Go.Proofs.YtkdgfkfbljdgmaaGreatDoor
open Go Go.Fen Go.RowKit
set_option maxHeartbeats 1000000 in
set_option maxRecDepth 100000 in
theorem B7h (b:Nat) (w:World) (c:w.cell? ⟨b,0,none⟩=some (.pointer (some ⟨b,0,none⟩))) :
  Calls Tryz.prog 259 #[.pointer (some ⟨b,0,none⟩)] w fun e w'=>e=.returned (.tuple #[])∧w'=w:=by
 obtain ⟨j,a,_⟩:=Option.map_eq_some_iff.1 (show (Tryz.prog.info? 289).map (·.size)=some 2 by kernel_rfl)
 go_enter Tryz.func259,Tryz.ntmps259
 go_wp2
 rw [Lib.run_neq_ptr_same w _ Tryz.underlying286 a]
 go_wp2
 go_end0
 exact ⟨rfl,rfl⟩
theorem oki {p:Prop} (h:p:=by kernel_rfl):p:=h
set_option maxHeartbeats 1000000 in
set_option maxRecDepth 100000 in
theorem B5i (b:Nat) (w:World) (g:w.cell? ⟨b,0,none⟩=some (.pointer none)) (a:w.shape? b=some (289,2)) (f:w.frozen? ⟨b,0,none⟩=false) :
  Calls Tryz.prog 259 #[.pointer (some ⟨b,0,none⟩)] w fun e w'=>e=.returned (.tuple #[])∧w'=w.setCell ⟨b,0,none⟩ (.pointer (some ⟨b,0,none⟩)):=by
 obtain ⟨j,d,c⟩:=Option.map_eq_some_iff.1 (show (Tryz.prog.info? 289).map (·.size)=some 2 by kernel_rfl)
 go_enter Tryz.func259,Tryz.ntmps259
 go_wp2
 rw [Lib.run_to_unsafe w ⟨b,0,none⟩ Tryz.underlying286 Tryz.underlying349 d (by rw [c];decide) a (Nat.zero_lt_succ 1)]
 simp only [Result.andThen]
 rw [Oper.upon_value]
 go_wp2
 rw [run_callFunc_extern Tryz.func293 oki oki oki (e:=Extern.AbiNoEscape.same) oki]
 rw [Lib.run_noEscape]
 simp only [Result.andThen]
 rw [Oper.upon_value]
 go_wp2
 rw [Lib.run_from_unsafe w ⟨b,0,none⟩ Tryz.underlying349 Tryz.underlying286 d a oki]
 simp only [Result.andThen]
 rw [Oper.upon_value]
 go_wp2
 go_end0
 exact ⟨rfl,rfl⟩
theorem B1z {M:List Nat} (w:World):KeptBut M w w.drew:=⟨rfl,rfl,rfl,Nat.le_refl _,fun _ _ _=>rfl⟩
theorem C2y {M:List Nat} {a w:World} {g:Nat} (h:KeptBut M a w) (c:g ∈ M) (n:Nat):KeptBut M a (w.freeze ⟨g,0,none⟩ n):=by
 refine h.trans ?_
 unfold World.freeze
 split
 ·exact KeptBut.refl M w
 ·exact ⟨rfl,rfl,rfl,by simp,fun k d b=>by
   simp only [Array.getElem?_modify]
   rw [if_neg (by rintro rfl;exact b c)]⟩
set_option maxHeartbeats 1000000 in
set_option maxRecDepth 100000 in
theorem C2e (b g cap:Nat) (p:Value) (cur:Array Value) (l:List UInt8) (w:World) (i:l≠[]) (d:w.heap[b]?=some (.cells #[p,.slice (some ⟨g,0,none⟩) l.length cap] 289 (0,0))) (k:w.heap[g]?=some (.cells cur 5 (0,0)))
  (m:l.length≤cap) (h:cap≤maxLen) (r:cur.size=cap) (a:∀ (j:Nat) (x:UInt8),l[j]?=some x→cur[j]?=some (Value.int .u8 (x.toNat:Int))) :
  Calls Tryz.prog 226 #[.pointer (some ⟨b,0,none⟩)] w fun e w'=>e=.returned (.string ⟨l.toArray⟩)∧KeptBut [b,g] w w':=by
 have s:l.length≠0:=by simpa using i
 have t:w.drew.cell? ⟨b,1,none⟩=some (.slice (some ⟨g,0,none⟩) l.length cap):=by
  have:w.drew.heap[b]?=some (.cells #[p,.slice (some ⟨g,0,none⟩) l.length cap] 289 (0,0)):=d
  rw [Lib.cell_of_heap this];rfl
 have o:(Builtin.unsafeSliceData_ #[287] 328 #[.slice (some ⟨g,0,none⟩) l.length cap]).run Tryz.prog w.drew=.ok (.pointer (some ⟨g,0,none⟩)) w.drew :=
  Lib.run_unsafeSliceData_row _ _ _ _ _ _ opx
 have n:(Builtin.unsafeString_ #[328,3] 9 #[.pointer (some ⟨g,0,none⟩),.int .i64 l.length]).run Tryz.prog w.drew=.ok (.string ⟨l.toArray⟩) (w.drew.freeze ⟨g,0,none⟩ l.length):=by
  refine Lib.run_unsafeString_row w.drew 328 3 9 5 Tryz.underlying328 oki g cur.size (by have c:w.drew.heap[g]?=some (.cells cur 5 (0,0)):=k;simp [World.shape?,c]) l i opx (by unfold maxLen at h;omega) ?_
  intro j x q
  have c:w.drew.heap[g]?=some (.cells cur 5 (0,0)):=k
  rw [Addr.add_lit,Nat.zero_add,Lib.cell_of_heap c]
  exact a j x q
 have f:Tryz.prog.follows .mixedOrders=true:=by kernel_rfl
 go_enter Tryz.func226,Tryz.ntmps226
 go_wp2
 go_region_o
 all_goals (go_wp2;go_ret;exact ⟨rfl,C2y (B1z w) oom _⟩)
set_option maxHeartbeats 2000000 in
set_option maxRecDepth 100000 in
theorem C4c (b:Nat) (p:Value) (w:World) (a:w.heap[b]?=some (.cells #[p,.slice none 0 0] 289 (0,0))) :
  Calls Tryz.prog 226 #[.pointer (some ⟨b,0,none⟩)] w fun e w'=>e=.returned (.string ⟨#[]⟩)∧KeptBut [b] w w':=by
 have d:=fun (W:World) (q:Option Addr)=>Lib.run_unsafeString_none (P:=Tryz.prog) W 328 3 9 q
 have g:w.drew.cell? ⟨b,1,none⟩=some (.slice none 0 0):=by
  have:w.drew.heap[b]?=some (.cells #[p,.slice none 0 0] 289 (0,0)):=a
  rw [Lib.cell_of_heap this];rfl
 have f:(Builtin.unsafeSliceData_ #[287] 328 #[.slice none 0 0]).run Tryz.prog w.drew=.ok (.pointer none) w.drew:=rfl
 have c:Tryz.prog.follows .mixedOrders=true:=by kernel_rfl
 go_enter Tryz.func226,Tryz.ntmps226
 go_wp2
 go_region_o
 all_goals (go_wp2;go_ret;exact ⟨rfl,B1z w⟩)
set_option maxHeartbeats 2000000 in
set_option maxRecDepth 100000 in
theorem B8h (b g:Nat) (p:Value) (cur:Array Value) (w:World) (a:w.heap[b]?=some (.cells #[p,.slice (some ⟨g,0,none⟩) 0 0] 289 (0,0))) (i:w.heap[g]?=some (.cells cur 5 (0,0))) :
  Calls Tryz.prog 226 #[.pointer (some ⟨b,0,none⟩)] w fun e w'=>e=.returned (.string ⟨#[]⟩)∧KeptBut [b,g] w w':=by
 have k:=fun (W:World) (q:Option Addr)=>Lib.run_unsafeString_none (P:=Tryz.prog) W 328 3 9 q
 have c:b<w.heap.size:=by
  rcases Nat.lt_or_ge b w.heap.size with h' | h'
  ·exact h'
  ·simp [Array.getElem?_eq_none h'] at a
 have j:w.drew.cell? ⟨b,1,none⟩=some (.slice (some ⟨g,0,none⟩) 0 0):=by
  have:w.drew.heap[b]?=some (.cells #[p,.slice (some ⟨g,0,none⟩) 0 0] 289 (0,0)):=a
  rw [Lib.cell_of_heap this];rfl
 have l:(Builtin.unsafeSliceData_ #[287] 328 #[.slice (some ⟨g,0,none⟩) 0 0]).run Tryz.prog w.drew=.ok (.pointer (some ⟨w.drew.heap.size,0,none⟩)) (w.drew.alloc (.view ⟨g,0,none⟩ 5)) :=
  Lib.run_unsafeSliceData_zero w.drew _ _ 5 Tryz.underlying328 ⟨g,0,none⟩ 0 (5,cur.size) (by have f:w.drew.heap[g]?=some (.cells cur 5 (0,0)):=i;simp [World.shape?,f])
 have h:(w.drew.alloc (.view ⟨g,0,none⟩ 5)).cell? ⟨b,1,none⟩=some (.slice (some ⟨g,0,none⟩) 0 0):=by
  have:(w.drew.alloc (.view ⟨g,0,none⟩ 5)).heap[b]?=_:=(Lib.alloc_old w.drew _ b c).trans a
  rw [Lib.cell_of_heap this];rfl
 have n:(w.alloc (.view ⟨g,0,none⟩ 5)).drew.cell? ⟨b,1,none⟩=some (.slice (some ⟨g,0,none⟩) 0 0):=h
 have m:w.cell? ⟨b,1,none⟩=some (.slice (some ⟨g,0,none⟩) 0 0):=j
 have d:Tryz.prog.follows .mixedOrders=true:=by kernel_rfl
 go_enter Tryz.func226,Tryz.ntmps226
 go_wp2
 go_region_o
 all_goals (go_wp2;go_ret;exact ⟨rfl,(B1z w).alloc _⟩)
set_option maxHeartbeats 2000000 in
set_option maxRecDepth 100000 in
theorem C1u (b g cap:Nat) (p:Value) (w:World) (a:cap≠0) (c:w.heap[b]?=some (.cells #[p,.slice (some ⟨g,0,none⟩) 0 cap] 289 (0,0))) :
  Calls Tryz.prog 226 #[.pointer (some ⟨b,0,none⟩)] w fun e w'=>e=.returned (.string ⟨#[]⟩)∧KeptBut [b,g] w w':=by
 have f:=fun (W:World) (q:Option Addr)=>Lib.run_unsafeString_none (P:=Tryz.prog) W 328 3 9 q
 have i:w.drew.cell? ⟨b,1,none⟩=some (.slice (some ⟨g,0,none⟩) 0 cap):=by
  have:w.drew.heap[b]?=some (.cells #[p,.slice (some ⟨g,0,none⟩) 0 cap] 289 (0,0)):=c
  rw [Lib.cell_of_heap this];rfl
 have h:(Builtin.unsafeSliceData_ #[287] 328 #[.slice (some ⟨g,0,none⟩) 0 cap]).run Tryz.prog w.drew=.ok (.pointer (some ⟨g,0,none⟩)) w.drew :=
  Lib.run_unsafeSliceData_row _ _ _ _ _ _ a
 clear a
 have d:Tryz.prog.follows .mixedOrders=true:=by kernel_rfl
 go_enter Tryz.func226,Tryz.ntmps226
 go_wp2
 go_region_o
 all_goals (go_wp2;go_ret;exact ⟨rfl,B1z w⟩)
theorem st0 {L0:Fen.Own} {h:Hp} {w:World} (a:h.sub w) (j:Z4 L0 h w):StW (cx w h (L0.map Prod.fst)) L0 [] w :=
 ⟨h,⟨fun q i=>(by cases i),a,Hp.le_refl _,fun b c=>.inl c,j,fun e g=>.inl (List.mem_map_of_mem g),KeptBut.refl _ _,fun d f=>by cases f⟩⟩
theorem C2p (b:Nat) (v:Value):Con Tryz.prog 259 [pt b 0] [bx b [.pointer none,v] 289] [] Unit (fun _=>.tuple #[]) (fun _=>[bx b [pt b 0,v] 289]) (fun _=>[]):=by
 refine ⟨⟨by kernel_rfl⟩,fun w h m f d=>?_⟩
 have a:=(d.1 _ (List.mem_singleton.2 rfl)).1
 simp only at a
 have l:=st0 f d
 refine (B5i b w (by rw [Lib.cell_of_heap a];rfl) (by simp [World.shape?,a]) (Lib.frozen_of_heap a 0)).mono ?_
 rintro e w' ⟨rfl,rfl⟩
 refine ⟨(),rfl,?_⟩
 have c:w.setCell ⟨b,0,none⟩ (.pointer (some ⟨b,0,none⟩))=w.setRow b #[pt b 0,v]:=by
  have:=setRow_heap w b #[Value.pointer none,v] #[pt b 0,v] 289 (0,0) a
  simp only [World.setCell,World.setRow]
  congr 1
  apply Array.ext_getElem?
  intro i
  simp only [Array.getElem?_modify]
  split
  ·rename_i j;subst j;simp [a]
  ·rfl
 rw [c]
 exact l.set (i:=0) rfl (setRow_heap w b _ _ 289 (0,0) a) (fun k g=>setRow_other w b k _ g) rfl rfl rfl oom
theorem C2v (b:Nat) (v:Value):Con Tryz.prog 259 [pt b 0] [bx b [pt b 0,v] 289] [] Unit (fun _=>.tuple #[]) (fun _=>[bx b [pt b 0,v] 289]) (fun _=>[]):=by
 refine ⟨⟨by kernel_rfl⟩,fun w h g d c=>?_⟩
 have a:=(c.1 _ (List.mem_singleton.2 rfl)).1
 simp only at a
 have f:=st0 d c
 refine (B7h b w (by rw [Lib.cell_of_heap a];rfl)).mono ?_
 rintro e w' ⟨rfl,rfl⟩
 exact ⟨(),rfl,f⟩
theorem D0h {L0:Fen.Own} {h:Hp} {w w':World} (g:h.sub w) (n:Z4 L0 h w) (i:KeptBut (L0.map Prod.fst) w w'):StW (cx w h (L0.map Prod.fst)) [] [] w':=by
 refine ⟨h,⟨fun q m=>(by cases m),fun b o e=>?_,Hp.le_refl _,fun b k=>.inl k,⟨fun e f=>(by cases f),List.nodup_nil⟩,fun e f=>(by cases f),i,fun d p=>by cases p⟩⟩
 have a:b ∉ L0.map Prod.fst:=fun j=>by
  obtain ⟨l,c,rfl⟩:=List.mem_map.1 j
  rw [(n.1 l c).2] at e
  cases e
 rw [i.block b (Hp.lt g e) a]
 exact g b o e
theorem C8f (b:Nat) (p:Value) (l:List UInt8) (r:VR) (f:VOk 1 l.length r):Con Tryz.prog 226 [pt b 0] (bx b [p,vv r l.length] 289::(vo cU8 5 r l++[])) [] Unit (fun _=>sv l) (fun _=>[]) (fun _=>[]):=by
 refine ⟨⟨by kernel_rfl⟩,fun w h hq z s=>?_⟩
 have d:=(s.1 (bx b [p,vv r l.length] 289) oom).1
 simp only at d
 have u:∀ {R:Ending→World→Prop},(∀ e w',(e=.returned (.string ⟨l.toArray⟩)∧KeptBut ((bx b [p,vv r l.length] 289::(vo cU8 5 r l++[])).map Prod.fst) w w')→R e w')→(Calls Tryz.prog 226 #[pt b 0] w fun e w'=>e=.returned (.string ⟨l.toArray⟩)∧KeptBut ((bx b [p,vv r l.length] 289::(vo cU8 5 r l++[])).map Prod.fst) w w')→Calls Tryz.prog 226 #[pt b 0] w R:=fun h1 h2=>h2.mono h1
 refine u (fun e w' ⟨he,c⟩=>⟨(),he,D0h z s c⟩) ?_
 obtain ⟨q,k,j⟩:=r
 cases q with
 | none =>
  have v:l.length=0∧k=0:=f
  have hl:l=[]:=List.eq_nil_of_length_eq_zero v.1
  obtain ⟨_,c⟩:=v
  subst hl c
  exact C4c b p w d
 | some g =>
  have a:l.length * 1+j.length=k * 1∧l.length≤k∧k≤maxLen:=f
  have t:=(s.1 (bx g (l.flatMap cU8++j) 5) (by simp [vo])).1
  simp only at t
  have m:(l.flatMap cU8).length=l.length:=by rw [C9 (sz:=1) (fun _=>rfl)];omega
  cases l with
  | nil =>
   by_cases c:k=0
   ·subst c
    exact B8h b g p _ w d t
   ·exact C1u b g k p w c d
  | cons x l =>
   refine C2e b g k p _ (x::l) w oom d t a.2.1 a.2.2 (by simp only [List.size_toArray,List.length_append,m];omega) ?_
   intro i y n
   have o:=(List.getElem?_eq_some_iff.1 n).1
   rw [List.getElem?_toArray,List.getElem?_append_left (by rw [m];exact o),C4o _ _ o]
   rw [List.getElem?_eq_getElem o] at n
   simp only [Option.some.injEq] at n
   rw [n]
theorem C2w (b:Nat) (v:Value) (a:Option Addr) (h:a=none∨a=some ⟨b,0,none⟩):Con Tryz.prog 259 [pt b 0] [bx b [.pointer a,v] 289] [] Unit (fun _=>.tuple #[]) (fun _=>[bx b [pt b 0,v] 289]) (fun _=>[]):=by
 rcases h with rfl | rfl
 ·exact C2p b v
 ·exact C2v b v
end Go.Proofs.YtkdgfkfbljdgmaaGreatDoor
set_option linter.unusedVariables false
set_option linter.unusedSimpArgs false
namespace Go.Fen
open Go Go.RowKit Go.Sort Go.Proofs
set_option maxRecDepth 100000
section
variable {P:Program}
end
end Go.Fen
namespace Go.Proofs.YtkdgfkfbljdgmaaGreatDoor
open Go Go.Fen Go.RowKit Go.Sort
set_option maxRecDepth 100000
end Go.Proofs.YtkdgfkfbljdgmaaGreatDoor
