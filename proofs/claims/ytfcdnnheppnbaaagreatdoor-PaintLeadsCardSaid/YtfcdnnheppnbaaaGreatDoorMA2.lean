import Derived.Scope
import Derived.Laws.IdiomStrings
import Derived.ArgAppend
import Derived.Deep.AppendSrc
import Derived.Deep.Upon
import Derived.Laws.MakeOwn
import Derived.Carry
import Derived.ChangeSame
import Derived.ChangeArms
import Derived.ChangeShapes
import Derived.Lib.LaidTab
import Derived.Tactics
import Derived.Tactics2
import Derived.Defers
import Derived.Recover
import Derived.Laws.Pointers
import Derived.Test.YtfcdnnheppnbaaaGreatDoorProg
import Derived.Lib.Builder
import Derived.Lib.UnsafeStr
import Derived.Laws.Externs
import Derived.WalkKit
import Derived.Shelf.RegionOpenPlain
import Derived.Shelf.Strconv.Itoa3
import Derived.Lib.ItoaLen
import Derived.Test.YtfcdnnheppnbaaaGreatDoorMA1
set_option linter.unusedVariables false
set_option linter.unusedSimpArgs false
set_option linter.unnecessarySimpa false
set_option maxRecDepth 100000
namespace Go.Fen
open Go Go.RowKit
section
variable {P:Program} {n:Nat} {X:Cx} {K:Act→World→Prop} {Q:Exit→Act→World→Prop} {E E':bX} {L L':Own} {Φ Φ':List Pers}
theorem E2q {α:Type} {f:α→List Value} {q:Option Addr} {xs:List α} {w:World} (c:cC X L Φ w) (j:Nat) (hΦ:Φ[j]?=some (sl f q xs)) (b:0<xs.length):∃ a,q=some a :=
 let ⟨_,hp⟩:=c;E1h (hp.facts _ (List.mem_of_getElem? hΦ)) b
theorem C0e {c:Array Oper} {i m:Nat} {α:Type} {f:α→List Value} {q:Option Addr} {xs:List α} (j:Nat) (hΦ:Φ[j]?=some (sl f q xs)) (l:0<xs.length) (h:∀ a,q=some a→JD P n X c i m K E L Φ):JD P n X c i m K E L Φ:=fun a g o k=>by
 by_cases hC:∃ w,cC X L Φ w
 ·obtain ⟨w,d⟩:=hC
  obtain ⟨b,e⟩:=E2q d j hΦ l
  exact h b e a g o k
 ·exact B2h (fun w d=>hC ⟨w,d⟩) _ _
theorem C8i {g:Array Oper} {e:Nat} {c:Array Bool} {d:V2} {Φs:List Pers} {α:Type} {f:α→List Value} {q:Option Addr} {xs:List α} (j:Nat) (hΦ:Φ[j]?=some (sl f q xs)) (o:0<xs.length) (h:∀ a,q=some a→JH P n X g e c K d Φs E L Φ):JH P n X g e c K d Φs E L Φ :=
 ⟨fun r p m s l a w i=>by
  obtain ⟨b,k⟩:=E2q i.world j hΦ o
  exact (h b k).go r p m s l a w i⟩
theorem H9 {o:Oper} {T e sz:Nat} {x y:Operand} {q:Option Addr} {a:Addr} {b cap:Nat} {m:Int} (j:SlTy P T e sz) (c:o.op=.indexAddr T x y)
  (f:ev E x=some (.slice q b cap)) (i:q=some a) (g:ev E y=some (.int .i64 m)) (k:Nat) (h:m=k) (d:k<b):I6 P X o E L Φ (.pointer (some (a.add (k * sz)))):=by
 subst i;exact E6x j c f g k h d
theorem K2 {α:Type} {c:α→List Value} {sz:Nat} {q:Option Addr} {a:Addr} {xs:List α} (d:q=some a) (e:∀ x,(c x).length=sz) (j:Nat) (h:Φ[j]?=some (sl c q xs)) {k:Nat} {v:α} (b:xs[k]?=some v):S1 Φ (at_ (a.add (k * sz)) (c v)):=by
 subst d;exact F4q e j h b
theorem cC.sealed {α:Type} {c:α→List Value} {T:Nat} {r:VR} {xs:List α} {pre post:Own} {w:World} {sz:Nat} (d:bR sz xs.length r) (h:cC X (pre++(vo c T r xs++post)) Φ w):cC X (pre++post) (sl c (va r.q) xs::Φ) w:=by
 unfold vo at h
 cases a:r.q with
 | none =>
  rw [a] at h
  unfold bR at d
  rw [a] at d
  simp only [List.nil_append] at h
  refine h.fact _ fun p _=>?_
  have:xs=[]:=List.length_eq_zero_iff.1 d.1
  rw [this];rfl
 | some b =>
  rw [a] at h
  simp only [List.cons_append,List.nil_append] at h
  have e:(pre++bx b (xs.flatMap c++r.j) T::post).Perm (bx b (xs.flatMap c++r.j) T::(pre++post)):=List.perm_middle
  have k:=(h.perm e).freeze (i:=0) rfl
  refine cC.foll (Φ:=blk b (.cells (xs.flatMap c++r.j).toArray T (0,0))::Φ) k fun p e q a=>?_
  rcases List.mem_cons.1 a with rfl | a
  ·have g:p b=some (.cells (xs.flatMap c++r.j).toArray T (0,0)):=e (blk b _) oom
   refine .inr ⟨rfl,_,_,_,g,fun j v f=>?_⟩
   simp only [Nat.zero_add,List.getElem?_toArray]
   rw [List.getElem?_append_left (List.getElem?_eq_some_iff.1 f).1];exact f
  ·exact e q (by simp [a])
theorem A3t {b:Array Oper} {i m:Nat} {α:Type} {c:α→List Value} {T:Nat} {r:VR} {xs:List α} (pre post:Own) {sz:Nat} (e:bR sz xs.length r) (f:L=pre++(vo c T r xs++post)) (h:JI P n X b i m K Q E (pre++post) (sl c (va r.q) xs::Φ)):JI P n X b i m K Q E L Φ :=
 fun a w d=>h a w ⟨d.size,d.defers,d.has,by have:=d.world;rw [f] at this;exact this.sealed e⟩
theorem D5n {e:Code} {α:Type} {c:α→List Value} {T:Nat} {r:VR} {xs:List α} (pre post:Own) {sz:Nat} (d:bR sz xs.length r) (f:L=pre++(vo c T r xs++post)) (h:J P n X e Q E (pre++post) (sl c (va r.q) xs::Φ)):J P n X e Q E L Φ :=
 fun a w b=>h a w ⟨b.size,b.defers,b.has,by have:=b.world;rw [f] at this;exact this.sealed d⟩
theorem B4n {α:Type} {c:α→List Value} {T:Nat} {r:VR} {xs:List α} (pre post:Own) {sz:Nat} (d:bR sz xs.length r) (e:L=pre++(vo c T r xs++post)) (h:JQ n X K E (pre++post) (sl c (va r.q) xs::Φ)):JQ n X K E L Φ :=
 fun a w b=>h a w ⟨b.size,b.defers,b.has,by have:=b.world;rw [e] at this;exact this.sealed d⟩
theorem A9.dropT (k:Nat) (h:Φ.drop k=Φ'):A9 Φ Φ':=fun p b q a=>b q (by rw [← h] at a;exact (List.drop_sublist k Φ).subset a)
theorem E4v {d:Array Oper} {f:Nat} {b:Array Bool} {e:V2} {Φs:List Pers} (i:Nat) {o:Oper} {α:Type} {val:α→Value} {L':α→Own} {Φ':α→List Pers} (Lh:Own) (c:Array Bool) (k:d[i]?=some o) (t:A6r d o E=some true) (j:X6 n o.dst=true)
  (m:b.setIfInBounds i true=c) (q:b.setIfInBounds i true=c) (r:e.at c=Lh) (s:Tri P n X o E L Φ α val L' Φ') (g:∀ x,Lh.Sublist (L' x)) (hΦ':∀ x,A9 (Φ' x) Φs) (h:∀ x,JH P n X d f c K e Φs (bX.put E o.dst (val x)) (L' x) (Φ' x)) :
  ∀ a w,St n X E L Φ a w→A2q d=true→Region.noSelect d=true→b.size=d.size→wpOpIn (FW X.rho) 0 P d (oN K) i (fun p w'=>((b.setIfInBounds i true).size=d.size∧cC X (e.at (b.setIfInBounds i true)) Φs w')∧AH X.rho P d (oN K) (fun l w=>l.size=d.size∧cC X (e.at l) Φs w) f (b.setIfInBounds i true) p w') a w:=by
 subst m r
 exact E5p i k t j s g hΦ' h
theorem cC.fix {w:World} {i b T:Nat} {cs:List Value} (f:L[i]?=some (bx b cs T)) (h:cC X L Φ w):cC X (L.eraseIdx i) (at_ ⟨b,0,none⟩ cs::Φ) w :=
 (h.freeze f).foll fun p c q a=>by
  rcases List.mem_cons.1 a with rfl | a
  ·have d:p b=some (.cells cs.toArray T (0,0)):=c (blk b (.cells cs.toArray T (0,0))) oom
   exact .inr ⟨rfl,_,_,_,d,fun j v e=>by simpa using e⟩
  ·exact c q (by simp [a])
theorem A6m {c:Array Oper} {i m:Nat} (k:Nat) {b T:Nat} {cs:List Value} (e:L[k]?=some (bx b cs T)) (h:JI P n X c i m K Q E (L.eraseIdx k) (at_ ⟨b,0,none⟩ cs::Φ)):JI P n X c i m K Q E L Φ :=
 fun a w d=>h a w ⟨d.size,d.defers,d.has,d.world.fix e⟩
theorem G7 {o:Oper} {c:Call} {f:Operand} {k:FuncId} {first cap:Array Value} {e args:List Value} {L0 L2:Own} {Φ0:List Pers} {α:Type} {val:α→Value} {L1:α→Own} {Φ1:α→List Pers}
  (b:cI P k args L0 Φ0 α val L1 Φ1) (i:o.op=.call c) (l:c.callee=.value f) (g:ev E f=some (.func (.func k) first cap)) (a:c.args.toList.mapM (ev E)=some e) (m:(first++e.toArray++cap).toList=args)
  (hΦ:A9 Φ Φ0) (j:L.Perm (L0++L2)) (L':α→Own) (d:∀ x,L1 x++L2=L' x):Tri P n X o E L Φ α val L' (fun x=>Φ1 x++Φ):=by
 obtain rfl:(fun x=>L1 x++L2)=L':=funext d
 exact D6q b i l g a m hΦ j
theorem A7m {b:Frame} {a:Act} {k:List Item} {cs:List Frame} {w:World} {c:Code}:step P (lone (b.atR a (.code (.scope c)::k)) cs w)=.next (lone (b.atR a (.code c::.inScope c::k)) cs w) :=
 step_lone_go (by simp [stepG,stepG.exec,Frame.atR])
theorem D2e {b:Frame} {a:Act} {k:List Item} {cs:List Frame} {w:World} {c:Code}:step P (lone (b.atR a (.inScope c::k)) cs w)=.next (lone (b.atR a k) cs w) :=
 step_lone_go (by simp [stepG,stepG.exec,Frame.atR])
theorem D9v {F:Fence} {m:Nat} {c:Code} {a:Act} {w:World} (h:c.wpIn F m P (Exit.noGoto Q) a w):(Code.scope c).wpIn F m P Q a w:=by
 intro b k cs q n hr
 have f:(lone (b.atR a (.code (.scope c)::k)) cs w).fenced P F:=fenced_calm n hr rfl
 obtain ⟨e,i,j,g,d⟩:=h b (.inScope c::k) cs q n hr
 cases e with
 | normal=>exact ⟨.normal,i,j,g,.head f A7m (StepsIn.trans d (.one (fenced_calm n hr rfl) D2e))⟩
 | exit id =>
  have r:exitTo id (.inScope c::k)=exitTo id k:=by simp [exitTo]
  exact ⟨.exit id,i,j,g,fun s p=>.head f A7m (d.1 s (by rw [r];exact p)),
   fun o p=>let ⟨k₁,h1,h2⟩:=d.2 o (by rw [r];exact p);⟨k₁,h1,.head f A7m h2⟩⟩
 | goto l=>exact g.elim
 | ret=>exact ⟨_,i,j,g,.of_steps (.one f A7m) d⟩
 | panic ch=>exact ⟨_,i,j,g,.of_steps (.one f A7m) d⟩
 | outgrown=>exact ⟨_,i,j,g,.of_steps (.one f A7m) d⟩
theorem D4t {c:Code} (h:J P n X c (Exit.noGoto Q) E L Φ):J P n X (.scope c) Q E L Φ:=fun a w b=>D9v (h a w b)
theorem D5j {l:Nat} (h:JQ n X (Q .normal) E L Φ):J P n X (.label l) Q E L Φ:=fun a w b=>wpIn_label (h a w b)
theorem C8m {b:Array Oper} {i m:Nat} (hΦ:A9 Φ Φ') (h:JI P n X b i m K Q E L Φ'):JI P n X b i m K Q E L Φ:=fun a w c=>h a w ⟨c.size,c.defers,c.has,c.world.foll hΦ⟩
theorem A9.yield (a:List Pers) {A B:List Pers}:A9 (A++(a++B)) (a++A):=fun p c q b=>c q (by
 rcases List.mem_append.1 b with h | h
 ·exact List.mem_append_right _ (List.mem_append_left _ h)
 ·exact List.mem_append_left _ h)
theorem D9d {α:Type} {l:List α}:∀ {cs:List (List α)},l ∈ cs→l.Sublist cs.flatten
 | [],h=>by cases h
 | c::cs,h=>by
  rw [List.flatten_cons]
  rcases List.mem_cons.1 h with rfl | h
  ·exact List.sublist_append_left _ _
  ·exact (D9d h).trans (List.sublist_append_right _ _)
theorem mcT (cs:List Fen.Own) (i:Nat) (b:L=cs.flatten) (a:cs[i]?=some L'):L'.Sublist L:=by
 subst b;exact D9d (List.mem_of_getElem? a)
theorem C5p {Y:Cx} {β σ:Type} {I:List β→σ→Prop} {Jx:Code→σ→Prop} {Lk:σ→Own} {Φk:σ→List Pers} {rest:List β} (s:σ) (b:I rest s) (d:(Lk s).Sublist L) (hΦ:A9 Φ (Φk s)):JQ n Y (RP Y I Jx Lk Φk rest .normal) E L Φ :=
 fun a w c=>⟨s,b,(c.world.sub d).foll hΦ⟩
end
section
variable {P:Program} {n:Nat} {X:Cx} {K:Act→World→Prop} {Q:Exit→Act→World→Prop} {E E':bX} {L L':Own} {Φ Φ':List Pers}
def A4x (ds:List (Nat×Obj)):Prop:=(ds.map Prod.fst).Nodup∧∀ d ∈ ds,d.2=.deferred (some [])
theorem A4x.nil:A4x []:=⟨List.nodup_nil,fun d a=>by cases a⟩
theorem A4x.cons {d:Nat} {ds:List (Nat×Obj)} (h:A4x ds) (b:d ∉ ds.map Prod.fst):A4x ((d,.deferred (some []))::ds) :=
 ⟨by rw [List.map_cons,List.nodup_cons];exact ⟨b,h.1⟩,fun e a=>by
  rcases List.mem_cons.1 a with rfl | a
  ·rfl
  ·exact h.2 e a⟩
end
def A3d (s:Slc):List Value:=[.slice s.q s.n s.k]
def U6 {α:Type} (c:α→List Value) (rs:List Slc) (xss:List (List α)):Pers:=⟨fun h=>∀ (i:Nat) r xs,rs[i]?=some r→xss[i]?=some xs→(sl c r.q xs).p h,fun {h h'} hl hp i r xs h1 h2=>(sl c r.q xs).mono hl (hp i r xs h1 h2)⟩
def I4 {α:Type} (rs:List Slc) (xss:List (List α)):Prop:=rs.length=xss.length∧∀ (i:Nat) r xs,rs[i]?=some r→xss[i]?=some xs→r.n=xs.length∧r.n≤r.k∧xs.length≤9223372036854775807
section
variable {P:Program} {n:Nat} {X:Cx} {K:Act→World→Prop} {Q:Exit→Act→World→Prop} {E E':bX} {L L':Own} {Φ Φ':List Pers}
theorem E8w {α:Type} {c:α→List Value} {rs:List Slc} {xss:List (List α)} (j:Nat) (h:Φ[j]?=some (U6 c rs xss)) {i:Nat} {r:Slc} {xs:List α} (hr:rs[i]?=some r) (b:xss[i]?=some xs):S1 Φ (sl c r.q xs) :=
 fun p a=>a _ (List.mem_of_getElem? h) i r xs hr b
theorem Q3 (c:L.Perm L') (h:JQ n X K E L' Φ):JQ n X K E L Φ:=fun a w b=>h a w ⟨b.size,b.defers,b.has,b.world.perm c⟩
theorem A8m {c:Code} {q:Pers} (a:S1 Φ q) (h:J P n X c Q E L (q::Φ)):J P n X c Q E L Φ:=F1u q a h
theorem D7 {a:Array Oper} {i m:Nat} {q:Pers} (b:S1 Φ q) (h:JI P n X a i m K Q E L (q::Φ)):JI P n X a i m K Q E L Φ:=E8c q b h
theorem C5b {b:Array Oper} {i m:Nat} {q:Pers} (d:S1 Φ q) (h:JD P n X b i m K E L (q::Φ)):JD P n X b i m K E L Φ:=by
 intro a g k j
 have e:cC X L (q::Φ)=cC X L Φ:=by
  funext w
  refine propext ⟨fun c=>c.foll fun p f q d=>f q (List.mem_cons_of_mem _ d),fun c=>c.fact q d⟩
 have:=h a g k j
 rw [e] at this
 exact this
end
theorem bt {ρ:Type} {c:Bool} {a b R:ρ} (h:(bif c then a else b)=R) (d:c=true):a=R:=by rw [d] at h;exact h
theorem bf {ρ:Type} {c:Bool} {a b R:ρ} (h:(bif c then a else b)=R) (d:c=false):b=R:=by rw [d] at h;exact h
theorem gd {α:Type} {xs:List α} {k:Nat} (d:α) (h:k<xs.length):xs[k]?=some (xs.getD k d):=by
 rw [List.getElem?_eq_getElem h];simp [h]
theorem A1f {α:Type} {xs:List α} {k:Nat} (d:α) (h:k<xs.length):xs.drop k=xs.getD k d::xs.drop (k+1):=by
 rw [List.drop_eq_getElem_cons h];congr 1;simp [h]
theorem A2g {α:Type} {xs:List α} {k:Nat} (h:¬ ((k:Int)<(xs.length:Int))):xs.drop k=[]:=List.drop_eq_nil_of_le opx
section
variable {P:Program} {n:Nat} {X:Cx} {K:Act→World→Prop} {Q:Exit→Act→World→Prop} {E E':bX} {L L':Own} {Φ Φ':List Pers}
theorem E5s {x y:Code} {β:Type} (I:β→Prop) (Ei:β→bX) (Li:β→Own) (Φi:β→List Pers)
  (c:J P n X x (Exit.then (fun a w=>∃ y,I y∧St n X (Ei y) (Li y) (Φi y) a w) Q) E L Φ) (g:∀ z,I z→J P n X y Q (Ei z) (Li z) (Φi z)):J P n X (.seq x y) Q E L Φ :=
 fun a w b=>wpIn_seq (Code.wpIn_mono (fun e a w q=>by
  cases e with
  | normal=>obtain ⟨z,d,f⟩:=q;exact g z d a w f
  | _=>exact q) (c a w b))
theorem JL1 {c:Code} {β1:Type} (I:β1→Prop) (Ei:β1→bX) (Li:β1→Own) (Φi:β1→List Pers) (μ:β1→Nat) (b:β1) (j:I b) (hE:S6 E (Ei b)) (m:(Li b).Sublist L) (hΦ:A9 Φ (Φi b))
  (h:∀ b,I b→J P n X c (Exit.then (fun a w=>∃ d,I d∧μ d<μ b∧St n X (Ei d) (Li d) (Φi d) a w) Q) (Ei b) (Li b) (Φi b)):J P n X (.loop c) Q E L Φ :=
 D3k (β:=β1) (fun x=>I x) (fun x=>Ei x) (fun x=>Li x) (fun x=>Φi x) (fun x=>μ x) b j hE m hΦ fun x g a w k=>Code.wpIn_mono (fun e a w q=>by
  cases e with
  | normal=>obtain ⟨d,l,i,f⟩:=q;exact ⟨d,l,i,f⟩
  | _=>exact q) (h x g a w k)
theorem JS1 {x y:Code} {β1:Type} (I:β1→Prop) (Ei:β1→bX) (Li:β1→Own) (Φi:β1→List Pers)
  (h:J P n X x (Exit.then (fun a w=>∃ b,I b∧St n X (Ei b) (Li b) (Φi b) a w) Q) E L Φ) (j:∀ c,I c→J P n X y Q (Ei c) (Li c) (Φi c)):J P n X (.seq x y) Q E L Φ :=
 E5s (β:=β1) (fun x=>I x) (fun x=>Ei x) (fun x=>Li x) (fun x=>Φi x) (fun a w g=>Code.wpIn_mono (fun e a w q=>by
  cases e with
  | normal=>obtain ⟨b,i,d⟩:=q;exact ⟨b,i,d⟩
  | _=>exact q) (h a w g)) fun x f=>j x f
theorem JL4 {c:Code} {β1 β2 β3 β4:Type} (I:β1→β2→β3→β4→Prop) (Ei:β1→β2→β3→β4→bX) (Li:β1→β2→β3→β4→Own) (Φi:β1→β2→β3→β4→List Pers) (μ:β1→β2→β3→β4→Nat) (d:β1) (g:β2) (f:β3) (b:β4) (r:I d g f b) (hE:S6 E (Ei d g f b)) (u:(Li d g f b).Sublist L) (hΦ:A9 Φ (Φi d g f b))
  (h:∀ d g f b,I d g f b→J P n X c (Exit.then (fun a w=>∃ l j k i,I l j k i∧μ l j k i<μ d g f b∧St n X (Ei l j k i) (Li l j k i) (Φi l j k i) a w) Q) (Ei d g f b) (Li d g f b) (Φi d g f b)):J P n X (.loop c) Q E L Φ :=
 D3k (β:=β1×β2×β3×β4) (fun x=>I x.1 x.2.1 x.2.2.1 x.2.2.2) (fun x=>Ei x.1 x.2.1 x.2.2.1 x.2.2.2) (fun x=>Li x.1 x.2.1 x.2.2.1 x.2.2.2) (fun x=>Φi x.1 x.2.1 x.2.2.1 x.2.2.2) (fun x=>μ x.1 x.2.1 x.2.2.1 x.2.2.2) (d,g,f,b) r hE u hΦ fun x o a w s=>Code.wpIn_mono (fun e a w q=>by
  cases e with
  | normal=>obtain ⟨l,j,k,i,t,p,m⟩:=q;exact ⟨(l,j,k,i),t,p,m⟩
  | _=>exact q) (h x.1 x.2.1 x.2.2.1 x.2.2.2 o a w s)
theorem JS4 {x y:Code} {β1 β2 β3 β4:Type} (I:β1→β2→β3→β4→Prop) (Ei:β1→β2→β3→β4→bX) (Li:β1→β2→β3→β4→Own) (Φi:β1→β2→β3→β4→List Pers)
  (k:J P n X x (Exit.then (fun a w=>∃ f c d b,I f c d b∧St n X (Ei f c d b) (Li f c d b) (Φi f c d b) a w) Q) E L Φ) (m:∀ h j i g,I h j i g→J P n X y Q (Ei h j i g) (Li h j i g) (Φi h j i g)):J P n X (.seq x y) Q E L Φ :=
 E5s (β:=β1×β2×β3×β4) (fun x=>I x.1 x.2.1 x.2.2.1 x.2.2.2) (fun x=>Ei x.1 x.2.1 x.2.2.1 x.2.2.2) (fun x=>Li x.1 x.2.1 x.2.2.1 x.2.2.2) (fun x=>Φi x.1 x.2.1 x.2.2.1 x.2.2.2) (fun a w p=>Code.wpIn_mono (fun e a w q=>by
  cases e with
  | normal=>obtain ⟨f,c,d,b,r,l⟩:=q;exact ⟨(f,c,d,b),r,l⟩
  | _=>exact q) (k a w p)) fun x o=>m x.1 x.2.1 x.2.2.1 x.2.2.2 o
theorem JL5 {c:Code} {β1 β2 β3 β4 β5:Type} (I:β1→β2→β3→β4→β5→Prop) (Ei:β1→β2→β3→β4→β5→bX) (Li:β1→β2→β3→β4→β5→Own) (Φi:β1→β2→β3→β4→β5→List Pers) (μ:β1→β2→β3→β4→β5→Nat) (f:β1) (i:β2) (g:β3) (d:β4) (b:β5) (t:I f i g d b) (hE:S6 E (Ei f i g d b)) (y:(Li f i g d b).Sublist L) (hΦ:A9 Φ (Φi f i g d b))
  (h:∀ f i g d b,I f i g d b→J P n X c (Exit.then (fun a w=>∃ o l m j k,I o l m j k∧μ o l m j k<μ f i g d b∧St n X (Ei o l m j k) (Li o l m j k) (Φi o l m j k) a w) Q) (Ei f i g d b) (Li f i g d b) (Φi f i g d b)):J P n X (.loop c) Q E L Φ :=
 D3k (β:=β1×β2×β3×β4×β5) (fun x=>I x.1 x.2.1 x.2.2.1 x.2.2.2.1 x.2.2.2.2) (fun x=>Ei x.1 x.2.1 x.2.2.1 x.2.2.2.1 x.2.2.2.2) (fun x=>Li x.1 x.2.1 x.2.2.1 x.2.2.2.1 x.2.2.2.2) (fun x=>Φi x.1 x.2.1 x.2.2.1 x.2.2.2.1 x.2.2.2.2) (fun x=>μ x.1 x.2.1 x.2.2.1 x.2.2.2.1 x.2.2.2.2) (f,i,g,d,b) t hE y hΦ fun x r a w u=>Code.wpIn_mono (fun e a w q=>by
  cases e with
  | normal=>obtain ⟨o,l,m,j,k,v,s,p⟩:=q;exact ⟨(o,l,m,j,k),v,s,p⟩
  | _=>exact q) (h x.1 x.2.1 x.2.2.1 x.2.2.2.1 x.2.2.2.2 r a w u)
theorem JL7 {c:Code} {β1 β2 β3 β4 β5 β6 β7:Type} (I:β1→β2→β3→β4→β5→β6→β7→Prop) (Ei:β1→β2→β3→β4→β5→β6→β7→bX) (Li:β1→β2→β3→β4→β5→β6→β7→Own) (Φi:β1→β2→β3→β4→β5→β6→β7→List Pers) (μ:β1→β2→β3→β4→β5→β6→β7→Nat) (f:β1) (j:β2) (k:β3) (g:β4) (b:β5) (d:β6) (i:β7) (z:I f j k g b d i) (hE:S6 E (Ei f j k g b d i)) (hL:(Li f j k g b d i).Sublist L) (hΦ:A9 Φ (Φi f j k g b d i))
  (h:∀ f j k g b d i,I f j k g b d i→J P n X c (Exit.then (fun a w=>∃ r o p l s m t,I r o p l s m t∧μ r o p l s m t<μ f j k g b d i∧St n X (Ei r o p l s m t) (Li r o p l s m t) (Φi r o p l s m t) a w) Q) (Ei f j k g b d i) (Li f j k g b d i) (Φi f j k g b d i)):J P n X (.loop c) Q E L Φ :=
 D3k (β:=β1×β2×β3×β4×β5×β6×β7) (fun x=>I x.1 x.2.1 x.2.2.1 x.2.2.2.1 x.2.2.2.2.1 x.2.2.2.2.2.1 x.2.2.2.2.2.2) (fun x=>Ei x.1 x.2.1 x.2.2.1 x.2.2.2.1 x.2.2.2.2.1 x.2.2.2.2.2.1 x.2.2.2.2.2.2) (fun x=>Li x.1 x.2.1 x.2.2.1 x.2.2.2.1 x.2.2.2.2.1 x.2.2.2.2.2.1 x.2.2.2.2.2.2) (fun x=>Φi x.1 x.2.1 x.2.2.1 x.2.2.2.1 x.2.2.2.2.1 x.2.2.2.2.2.1 x.2.2.2.2.2.2) (fun x=>μ x.1 x.2.1 x.2.2.1 x.2.2.2.1 x.2.2.2.2.1 x.2.2.2.2.2.1 x.2.2.2.2.2.2) (f,j,k,g,b,d,i) z hE hL hΦ fun x v a w hs=>Code.wpIn_mono (fun e a w q=>by
  cases e with
  | normal=>obtain ⟨r,o,p,l,s,m,t,h1,y,u⟩:=q;exact ⟨(r,o,p,l,s,m,t),h1,y,u⟩
  | _=>exact q) (h x.1 x.2.1 x.2.2.1 x.2.2.2.1 x.2.2.2.2.1 x.2.2.2.2.2.1 x.2.2.2.2.2.2 v a w hs)
end
def J8 (n:Int):List Value:=[.int .i64 n]
def cG (b:UInt8):List Value:=[.int .u8 (b.toNat:Int)]
def F4v (s:List UInt8):List Value:=[.string (bs s)]
def R7 (b:Bool):List Value:=[.bool b]
def by8 (n:Int):UInt8:=UInt8.ofNat n.toNat
theorem F4j (b:UInt8):(b.toNat:Int)≤255:=by have:=b.toNat_lt;omega
theorem B0c (b:UInt8):IntKind.i64.wrap (b.toNat:Int)=b.toNat:=A0j (by show (-9223372036854775808:Int)≤_;omega) (by have:=F4j b;show _≤(9223372036854775807:Int);omega)
theorem C0k {n:Int} (h:0≤n∧n≤255):((by8 n).toNat:Int)=n:=by
 unfold by8;rw [UInt8.toNat_ofNat'];omega
theorem E1w {α:Type} {x:α} {e R:List α} (h:x::e=R):∃ R',e=R'∧R=x::R':=⟨e,rfl,h.symm⟩
section
variable {P:Program} {n:Nat} {X:Cx} {K:Act→World→Prop} {Q:Exit→Act→World→Prop} {E E':bX} {L L':Own} {Φ Φ':List Pers}
theorem B7s {α:Type} {c:α→List Value}:S1 Φ (sl c none []):=fun _ _=>rfl
theorem E2p (a b:List UInt8):(a == b)=decide (a=b):=by
 by_cases h:a=b<;>simp [h]
theorem C0m (a:List UInt8):(bs a).size=a.length:=rfl
theorem E4z {o:Oper} {T U:TypeId} {x y:Operand} {a b:List UInt8} (e:o.op=.binOp .eql T x y U) (d:ev E x=some (.string (bs a))) (f:ev E y=some (.string (bs b))):I6 P X o E L Φ (.bool (decide (a=b))) :=
 .of_run fun g w c _=>by
  simp [execOp,e,C3 c d,C3 c f,eqGuard,binOp,Op.stringOp,E2p]
theorem A4i {o:Oper} {T U:TypeId} {x y:Operand} {a b:List UInt8} (e:o.op=.binOp .neq T x y U) (d:ev E x=some (.string (bs a))) (f:ev E y=some (.string (bs b))):I6 P X o E L Φ (.bool (!decide (a=b))) :=
 .of_run fun g w c _=>by
  simp [execOp,e,C3 c d,C3 c f,eqGuard,binOp,Op.stringOp,E2p]
theorem E4l (a b:List UInt8):bs a++bs b=bs (a++b):=by
 apply ByteArray.ext;simp [bs]
theorem D2s {o:Oper} {T U:TypeId} {x y:Operand} {a b:List UInt8} (f:o.op=.binOp .add T x y U) (d:ev E x=some (.string (bs a))) (g:ev E y=some (.string (bs b))) (h:a.length+b.length≤9223372036854775807):I6 P X o E L Φ (.string (bs (a++b))) :=
 .of_run fun i w c _=>by
  have e:¬ ((((bs a).size+(bs b).size:Nat):Int) > IntKind.i64.max):=by
   rw [C0m,C0m];show ¬ ((_:Int) > 9223372036854775807);omega
  simp only [execOp,f,C3 c d,C3 c g,eqGuard,binOp,Op.stringOp,if_neg e,E4l]
  rfl
theorem E7i (s:List UInt8) (k:Nat) (h:k<s.length):(bs s)[k]?=some (s.getD k 0):=by
 have:k<(bs s).size:=h
 rw [getElem?_pos (bs s) k this]
 simp only [bs,ByteArray.getElem_eq_getElem_data]
 simp [List.getD,h]
theorem B9a {o:Oper} {T:TypeId} {x y:Operand} {s:List UInt8} {m:Int} (d:P.underlying T=some .string) (e:o.op=.index T x y) (b:ev E x=some (.string (bs s))) (g:ev E y=some (.int .i64 m)) (k:Nat) (c:m=k) (f:k<s.length) :
  I6 P X o E L Φ (.int .u8 ((s.getD k 0).toNat:Int)):=.of_run fun h w a _=>by
 subst c
 have i:(0:Int)≤k:=by omega
 simp [execOp,e,C3 a b,C3 a g,Instr.index,asIntOf,run_underlying d,E7i s k f]
theorem C1u (s:List UInt8) (l h:Nat) (a:h≤s.length):(bs s).extract l h=bs ((s.drop l).take (h - l)):=by
 apply ByteArray.ext
 rw [ByteArray.data_extract]
 simp only [bs]
 apply Array.ext'
 simp
theorem D8b {o:Oper} {T:TypeId} {x i f:Operand} {s:List UInt8} {a b:Int} (t:P.underlying T=some .string) (j:o.op=.slice T x (some i) (some f) none) (m:ev E x=some (.string (bs s))) (c:ev E i=some (.int .i64 a)) (d:ev E f=some (.int .i64 b)) (l:Nat) (k:a=l) (h:Nat) (p:b=h) (r:l≤h) (g:h≤s.length) :
  I6 P X o E L Φ (.string (bs ((s.drop l).take (h - l)))):=.of_run fun u w e _=>by
 subst k p
 have n:(0:Int)≤h∧(h:Int)≤(bs s).size:=by rw [C0m];omega
 have q:(0:Int)≤l∧(l:Int)≤h:=by omega
 simp [execOp,j,C3 e m,C3 e c,C3 e d,Instr.sliceAt,Instr.slice,Instr.sliceBounds,Instr.sliceBound,asIntOf,run_underlying t,n,q,C1u s l h g,show h≤(bs s).size from g,r]
theorem B9g {o:Oper} {T:TypeId} {x c:Operand} {s:List UInt8} {b:Int} (g:P.underlying T=some .string) (i:o.op=.slice T x none (some c) none) (j:ev E x=some (.string (bs s))) (a:ev E c=some (.int .i64 b)) (h:Nat) (f:b=h) (d:h≤s.length) :
  I6 P X o E L Φ (.string (bs (s.take h))):=.of_run fun l w e _=>by
 subst f
 have k:(0:Int)≤h∧(h:Int)≤(bs s).size:=by rw [C0m];omega
 have:=C1u s 0 h d
 simp only [List.drop_zero,Nat.sub_zero] at this
 simp [execOp,i,C3 e j,C3 e a,Instr.sliceAt,Instr.slice,Instr.sliceBounds,Instr.sliceBound,asIntOf,run_underlying g,k,this,show h≤(bs s).size from d]
theorem C1d {o:Oper} {T:TypeId} {x c:Operand} {s:List UInt8} {a:Int} (g:P.underlying T=some .string) (h:o.op=.slice T x (some c) none none) (i:ev E x=some (.string (bs s))) (b:ev E c=some (.int .i64 a)) (l:Nat) (j:a=l) (f:l≤s.length) :
  I6 P X o E L Φ (.string (bs (s.drop l))):=.of_run fun k w d _=>by
 subst j
 have e:(0:Int)≤l∧(l:Int)≤(bs s).size:=by rw [C0m];omega
 have:=C1u s l s.length (Nat.le_refl _)
 rw [List.take_of_length_le oom] at this
 simp [execOp,h,C3 d i,C3 d b,Instr.sliceAt,Instr.slice,Instr.sliceBounds,Instr.sliceBound,asIntOf,run_underlying g,e,C0m,this,f]
theorem B3i {α:Type} {rs:List Slc} {xss:List (List α)} (ok:I4 rs xss) {k:Nat} (h:k<rs.length) {d:Slc}:(Value.slice (rs.getD k d).q (rs.getD k d).n (rs.getD k d).k)=.slice (rs.getD k d).q (xss.getD k []).length (rs.getD k d).k:=by
 have a:=gd d h
 have b:xss[k]?=some (xss.getD k []):=gd [] (by have:=ok.1;omega)
 rw [(ok.2 k _ _ a b).1]
theorem B2y {α:Type} {rs:List Slc} {xss:List (List α)} (ok:I4 rs xss) {k:Nat} (h:k<rs.length) {d:Slc}:(xss.getD k []).length≤(rs.getD k d).k∧(xss.getD k []).length≤9223372036854775807:=by
 have a:=gd d h
 have b:xss[k]?=some (xss.getD k []):=gd [] (by have:=ok.1;omega)
 have:=ok.2 k _ _ a b
 omega
theorem B2s {α:Type} {c:α→List Value} {rs:List Slc} {xss:List (List α)} (ok:I4 rs xss) (j:Nat) (a:Φ[j]?=some (U6 c rs xss)) {k:Nat} (h:k<rs.length) {d:Slc}:S1 Φ (sl c (rs.getD k d).q (xss.getD k [])) :=
 E8w j a (gd d h) (gd [] (by have:=ok.1;omega))
theorem C1v {o:Oper} {T e sz len:Nat} {agg:Bool} {x y:Operand} {a:Addr} {m:Int} (l:P.underlying T=some (.array len e)) (j:Ty P e sz agg) (c:o.op=.indexAddr T x y)
  (f:ev E x=some (.pointer (some a))) (g:ev E y=some (.int .i64 m)) (k:Nat) (h:m=k) (d:k<len):I6 P X o E L Φ (.pointer (some (a.add (k * sz)))):=.of_run fun n w b _=>by
 subst h
 have i:(0:Int)≤k∧(k:Int)<len:=by omega
 simp [execOp,c,C3 b f,C3 b g,Instr.indexAt,asIntOf,run_underlying l,Instr.sureAddr,j.size,i,Nat.not_le.2 d]
def A9p (q:Option Addr) (l sz m:Nat):Option Addr:=if m=l then q else q.map (·.add (l * sz))
def SB (E:bX) (o:Option Operand) (d v:Nat):Prop:=match o with | none=>v=d | some x=>∃ m,ev E x=some (.int .i64 m)∧m=(v:Int)
theorem A1n {d:Nat}:SB E none d d:=rfl
theorem A0i {x:Operand} {m:Int} {d v:Nat} (h:ev E x=some (.int .i64 m)) (a:m=v):SB E (some x) d v:=⟨m,h,a⟩
theorem A4s {a:Act} (g:Has a E) {x:Operand} {d v y:Nat} (h:SB E (some x) d v) (i:v≤y) (b:BoundsCode) (w:World):(Instr.sliceBound (a.eval x) y b).run P w=.ok v w:=by
 obtain ⟨m,f,e⟩:=h
 subst e
 have c:(0:Int)≤v∧(v:Int)≤y:=by omega
 simp [Instr.sliceBound,C3 g f,asIntOf,c]
theorem A9y {o:Oper} {T e sz:Nat} {x:Operand} {f d g:Option Operand} {q:Option Addr} {len cap:Nat} (hT:SlTy P T e sz) (ho:o.op=.slice T x f d g) (hx:ev E x=some (.slice q len cap)) (l h m:Nat) (c:SB E f 0 l) (i:SB E d len h) (s:SB E g cap m)
  (p:l≤h) (j:h≤m) (v:m≤cap) {n':Nat} (hn:n'=h - l) (u:(g.isSome&&!d.isSome)=false):I6 P X o E L Φ (.slice (A9p q l sz m) n' (m - l)):=.of_run fun r w b _=>by
 subst hn
 have n:(Instr.sliceBounds true len cap (f.map r.eval) (d.map r.eval) (g.map r.eval)).run P w=.ok (l,h,m) w:=by
  unfold Instr.sliceBounds
  cases g with
  | none =>
   have k:m=cap:=s
   subst k
   cases d with
   | none =>
    have t:h=len:=i
    subst t
    cases f with
    | none=>have a:l=0:=c;subst a;simp
    | some z=>simp [A4s b c p]
   | some y =>
    cases f with
    | none=>have a:l=0:=c;subst a;simp [A4s b i j]
    | some z=>simp [A4s b c p,A4s b i j]
  | some z =>
   cases d with
   | none=>simp at u
   | some y =>
    cases f with
    | none=>have a:l=0:=c;subst a;simp [A4s b i j,A4s b s v]
    | some z=>simp [A4s b c p,A4s b i j,A4s b s v]
 simp only [execOp,ho,Sem.run_bind,C3 b hx,Instr.sliceAt,Instr.slice,run_underlying hT.ty,Result.andThen_ok,n,hT.run,A9p]
 rfl
theorem F3t (q:Option Addr) (sz m:Nat):A9p q 0 sz m=q:=by
 unfold A9p;split
 ·rfl
 ·cases q<;>simp [Addr.add]
theorem C5c {o:Oper} {T e sz:Nat} {x:Operand} {c b:Option Operand} {q:Option Addr} {a cap:Nat} (l:SlTy P T e sz) (g:o.op=.slice T x none c b) (j:ev E x=some (.slice q a cap)) (h m:Nat) (k:SB E c a h) (n:SB E b cap m)
  (i:h≤m) (f:m≤cap) {n':Nat} (p:n'=h) (d:(b.isSome&&!c.isSome)=false):I6 P X o E L Φ (.slice q n' m):=by
 have:=A9y (L:=L) (Φ:=Φ) (X:=X) l g j 0 h m A1n k n (Nat.zero_le _) i f (n':=n') opx d
 rwa [F3t] at this
theorem E0x {α:Type} {c:α→List Value} {sz:Nat} {q:Option Addr} {xs:List α} (h:S1 Φ (sl c q xs)) (l k m:Nat) (s:∀ x,(c x).length=sz) {ys:List α} (i:ys=(xs.drop l).take (k - l)) (r:l≤xs.length) (t:k≤m):S1 Φ (sl c (A9p q l sz m) ys):=fun p n=>by
 subst i
 have:=h p n
 unfold A9p
 split
 ·rename_i e
  subst e
  rw [show k - m=0 by omega,List.take_zero]
  cases q with
  | none=>rfl
  | some a=>exact .inl rfl
 ·cases q with
  | none=>have e:xs=[]:=this;subst e;simp [sl]
  | some a =>
   obtain ⟨b,of,u⟩:=a
   obtain o | ⟨h0,cc,T,fr,h3,h4⟩:=this
   ·exact .inl (List.flatMap_eq_nil_iff.2 fun x g=>List.flatMap_eq_nil_iff.1 o x (List.mem_of_mem_drop (List.mem_of_mem_take g)))
   simp only at h0 h3 h4
   subst h0
   simp only [Option.map_some,A1h]
   refine .inr ⟨rfl,cc,T,fr,h3,fun j v d=>?_⟩
   have e:xs.flatMap c=(xs.take l).flatMap c++((((xs.drop l).take (k - l)).flatMap c)++((xs.drop l).drop (k - l)).flatMap c):=by
    rw [← List.flatMap_append,← List.flatMap_append,List.take_append_drop,List.take_append_drop]
   have f:((xs.take l).flatMap c).length=l * sz:=by rw [G4 s,List.length_take,Nat.min_eq_left r]
   simp only
   rw [Nat.add_assoc]
   refine h4 _ _ ?_
   rw [e,List.getElem?_append_right opx,f,Nat.add_sub_cancel_left,List.getElem?_append_left (List.getElem?_eq_some_iff.1 d).1]
   exact d
theorem A0f {o:Oper} {c:Call} {T e sz d:Nat} {x y:Operand} {α:Type} {f:α→List Value} {r:VR} {xs ys:List α} {a:Addr} {m cc:Nat} {pre post:Own} (v:ApTy P T e sz d) (l:∀ x,(f x).length=sz) (k:∀ x,(f x).all (·.oneCell')=true)
  (q:o.op=.call c) (w:c.callee=.builtin .append) (i:c.args=#[x,y]) (j:c.argTypes=#[T,T]) (s:ev E x=some (vv r xs.length)) (t:ev E y=some (.slice (some a) m cc)) (_h:True=True) (z:m=ys.length) (hL:L=pre++(vo f e r xs++post))
  (u:S1 Φ (sl f (some a) ys)) (g:bR sz xs.length r) (p:(xs.length+ys.length) * d≤140737488355328) (h:xs.length+ys.length≤9223372036854775807) :
  Tri P n X o E L Φ {b:VR // bR sz (xs++ys).length b} (fun b=>vv b.1 (xs++ys).length) (fun b=>pre++(vo f e b.1 (xs++ys)++post)) (fun _=>Φ):=by
 rw [List.length_append]
 exact D9k v l k q w i j s t z hL u g p h
theorem D8p {w:World} {a:Nat} {T ty e:TypeId} {i:TypeInfo} {size:Nat} (h:P.underlying T=some (.slice e)) (f:P.info? e=some i)
  {v:Value} {n:Nat} {xs:List Value} (b:w.ownsRow a e size v n xs) (c:Nat):(Builtin.append_ #[T,T] ty #[v,.slice none 0 c]).run P w=.ok v w:=by
 rcases b.2 with ⟨rfl,rfl⟩ | ⟨g,cap,cur,rfl,_,_,d,_⟩
 ·simp [Builtin.append_,run_underlying h,sizeOf,typeInfo,f,Builtin.lenOf,Builtin.firstCells]
 ·simp [Builtin.append_,run_underlying h,sizeOf,typeInfo,f,Builtin.lenOf,Builtin.firstCells,d,storeCells]
theorem E8l {T e sz d:Nat} (i:ApTy P T e sz d) {α:Type} {f:α→List Value} (c:∀ x,(f x).length=sz) {r:VR} {xs:List α} {pre post:Own} {w:World} (g:cC X (pre++(vo f e r xs++post)) Φ w) (a:bR sz xs.length r) :
  w.ownsRow 0 e sz (vv r xs.length) xs.length (xs.flatMap f):=by
 obtain ⟨p,h⟩:=g
 refine ⟨G4 c xs,?_⟩
 unfold bR at a
 split at a
 ·rename_i hq0
  refine .inl ⟨?_,a.1⟩
  unfold vv va
  rw [hq0,a.1,a.2]
 ·rename_i b hq0
  refine .inr ⟨b,r.k,(xs.flatMap f++r.j).toArray,?_,Nat.zero_le _,?_,a.2.1,a.2.2,?_,?_⟩
  ·unfold vv va;rw [hq0]
  ·have:=h.own.1 (bx b (xs.flatMap f++r.j) e) (List.mem_append_right _ (List.mem_append_left _ (by unfold vo;rw [hq0];simp)))
   exact this.1
  ·simp only [List.size_toArray,List.length_append,G4 c];exact a.1
  ·rw [← G4 c xs];simp
theorem B8y {o:Oper} {c:Call} {T e sz j:Nat} {x y:Operand} {α:Type} {f:α→List Value} {r:VR} {xs ys:List α} {q:Option Addr} {m cc:Nat} {pre post:Own} (l:ApTy P T e sz j) (hf:∀ x,(f x).length=sz) (a0:∀ x,(f x).all (·.oneCell')=true)
  (v:o.op=.call c) (hc:c.callee=.builtin .append) (g:c.args=#[x,y]) (h:c.argTypes=#[T,T]) (hx:ev E x=some (vv r xs.length)) (hy:ev E y=some (.slice q m cc)) (u:m=ys.length) (hL:L=pre++(vo f e r xs++post))
  (hq:S1 Φ (sl f q ys)) (b:bR sz xs.length r) (hb:(xs.length+ys.length) * j≤140737488355328) (z:xs.length+ys.length≤9223372036854775807) :
  Tri P n X o E L Φ {d:VR // bR sz (xs++ys).length d} (fun d=>vv d.1 (xs++ys).length) (fun d=>pre++(vo f e d.1 (xs++ys)++post)) (fun _=>Φ):=by
 cases q with
 | some a=>exact A0f l hf a0 v hc g h hx hy rfl u hL hq b hb z
 | none =>
  intro ac w K Q k hk
  obtain ⟨p,hp⟩:=k.world
  have t:ys=[]:=hq p hp.facts
  subst t
  simp only [List.length_nil] at u
  subst u
  have s:=k.world
  rw [hL] at s
  obtain ⟨i,hi,_⟩:=Option.map_eq_some_iff.1 l.info
  refine A8j (by rw [v];rfl) ?_
  unfold Oper.wp
  rw [show (execOp ac.eval o).run P w=.ok (.value (vv r xs.length)) w by
   simp [execOp,v,resolve,hc,g,h,C3 k.has hx,C3 k.has hy,invoke,builtin,D8p (P:=P) (ty:=o.type) l.ty hi (E8l l hf s b) cc]]
  have:=hk ⟨r,by simpa using b⟩ w (by simpa using s)
  exact (by simpa using this:K (ac.put o.dst (vv r xs.length)) w)
theorem bR.cap {sz n:Nat} {r:VR} (h:bR sz n r):n≤r.k:=by
 unfold bR at h
 split at h
 ·omega
 ·exact h.2.1
theorem bR.le {sz n:Nat} {r:VR} (h:bR sz n r):n≤9223372036854775807:=by
 unfold bR at h
 split at h
 ·omega
 ·exact Nat.le_trans h.2.1 h.2.2
theorem J7 {o:Oper} {c:Call} {g:Operand} {k:FuncId} {first cap:Array Value} {f args:List Value} {L0 L2:Own} {Φ0:List Pers} {α:Type} {val:α→Value} {L1:α→Own} {Φ1:α→List Pers}
  (d:cI P k args L0 Φ0 α val L1 Φ1) (l:o.op=.call c) (r:c.callee=.value g) (i:ev E g=some (.func (.func k) first cap)) (b:c.args.toList.mapM (ev E)=some f) (s:(first++f.toArray++cap).toList=args)
  (hΦ:A9 Φ Φ0) (q:L.Perm (L0++L2)) (L':α→Own) (e:∀ x,(L1 x++L2).Perm (L' x)):Tri P n X o E L Φ α val L' (fun x=>Φ1 x++Φ):=by
 intro a w K Q m p
 exact D6q d l r i b s hΦ q a w K Q m fun x w' j=>p x w' (j.perm (e x))
theorem D4q {o:Oper} {T e sz d:Nat} {ps:Array (Nat×Operand)} {vs:List (Nat×Value)} {α:Type} {c:α→List Value} {xs:List α} (p:SlTy P T e sz) (g:Nat.blt 0 (d * sz)=true) (l:o.op=.buildSlice T d ps) (t:B3z E ps.toList=some vs)
  (f:(if d * sz > 2 ^ 24 then none else match (P.info? e).bind (·.zero) with
   | some z=>Instr.fill (fun i=>some (i * sz,sz)) ((Array.range (d * sz)).map (z.cells[· % z.cells.size]!)) vs
   | none=>none)=some (xs.flatMap c++[]).toArray) :
  Tri P n X o E L Φ Nat (fun b=>.slice (some ⟨b,0,none⟩) d d) (fun b=>bx b (xs.flatMap c++[]) e::L) (fun _=>Φ):=by
 intro a w K Q m u
 have v:(ps.map fun (x:Nat×Operand)=>(x.1,a.eval x.2)).toList=vs:=by simpa using B2f m.has t
 split at f
 ·cases f
 ·rename_i j
  split at f
  ·rename_i z s
   obtain ⟨i,r,h⟩:=Option.bind_eq_some_iff.1 s
   have k:(zeroValue e).run P w=.ok z w:=by simp [zeroValue,A8p r,h]
   have hr:(execOp a.eval o).run P w=.ok (.value (.slice (some ⟨w.heap.size,0,none⟩) d d)) (w.alloc (.cells (xs.flatMap c++[]).toArray e (0,0))):=by
    have q:¬ d * sz=0:=by
     have:0<d * sz:=by simpa [Nat.blt_eq] using g
     omega
    simp only [execOp,l,Instr.buildSlice,Sem.run_bind,run_underlying p.ty,Result.andThen_ok,p.run,j,q,Sem.run_ite,if_false,k,Sem.run_pure,v,f,newRow,run_newObj]
    rfl
   refine A8j (by rw [l];rfl) ?_
   unfold Oper.wp
   rw [hr]
   exact u w.heap.size _ (m.world.alloc _)
  ·cases f
theorem D3y (s:List UInt8) (j:Nat) (a:j<s.length):(s.flatMap cG)[j]?=some (.int .u8 (s[j].toNat:Int)):=by
 have:=B4b (c:=cG) (sz:=1) (fun _=>rfl) (xs:=s) (k:=j) (v:=s[j]) (by simp [a]) 0 _ rfl
 simpa using this
theorem C3o {o:Oper} {S T e:TypeId} {x:Operand} {q:Option Addr} {n' k:Nat} {s:List UInt8} (i:P.underlying T=some .string) (c:P.underlying S=some (.slice e)) (d:o.op=.convert S T x) (f:ev E x=some (.slice q n' k)) (n:S1 Φ (sl cG q s)) (m:n'=s.length) (g:(P.underlying e)=some (.int .u8)):I6 P X o E L Φ (.string (bs s)) :=
 .of_run fun t w l ⟨p,h⟩=>by
  subst m
  have b:=n p h.facts
  cases q with
  | none =>
   have b:s=[]:=b
   subst b
   simp [execOp,d,C3 l f,convert,run_underlying i,run_underlying c,run_underlying g,Conv.bytesToString]
   rfl
  | some a =>
   have b:A7i p a (s.flatMap cG):=b
   have:=run_convert_bytes_back (P:=P) w S T e a k s c g i fun j r=>b.cell h.sub (D3y s j r)
   simp [execOp,d,C3 l f,this]
theorem C9s {o:Oper} {T U:TypeId} {x y:Operand} {k:IntKind} {a b:Int} (f:o.op=.binOp .quo T x y U) (e:ev E x=some (.int k a)) (g:ev E y=some (.int k b)) (d:b≠0):I6 P X o E L Φ (.int k (k.wrap (a.tdiv b))):=.of_run fun h w c _=>by
 simp [execOp,f,C3 c e,C3 c g,eqGuard,binOp,Op.intDiv,d]
theorem A1a {α:Type} {c:α→List Value}:S1 Φ (U6 c [] []):=fun p _ i r xs h=>by simp at h
theorem A9b {α:Type} {c:α→List Value} {r:Slc} {xs:List α} {rs:List Slc} {xss:List (List α)} (f:S1 Φ (sl c r.q xs)) (g:S1 Φ (U6 c rs xss)):S1 Φ (U6 c (r::rs) (xs::xss)):=fun p d i e b hr a=>by
 cases i with
 | zero=>simp only [List.getElem?_cons_zero,Option.some.injEq] at hr a;subst hr a;exact f p d
 | succ i=>simp only [List.getElem?_cons_succ] at hr a;exact g p d i e b hr a
theorem I4.none {α:Type}:I4 [] ([]:List (List α)):=⟨rfl,fun i r xs h=>by simp at h⟩
theorem I4.cons {α:Type} {r:Slc} {xs:List α} {rs:List Slc} {xss:List (List α)} (e:r.n=xs.length∧r.n≤r.k∧xs.length≤9223372036854775807) (c:I4 rs xss):I4 (r::rs) (xs::xss):=⟨by simp [c.1],fun i d b hr a=>by
 cases i with
 | zero=>simp only [List.getElem?_cons_zero,Option.some.injEq] at hr a;subst hr a;exact e
 | succ i=>simp only [List.getElem?_cons_succ] at hr a;exact c.2 i d b hr a⟩
end
section
variable {P:Program} {n:Nat} {X:Cx} {K:Act→World→Prop} {Q:Exit→Act→World→Prop} {E E':bX} {L L':Own} {Φ Φ':List Pers}
theorem A0w {o:Oper} {T:TypeId} (c:o.op=.makeMap T none):Tri P n X o E L Φ Nat (fun b=>.map (some b)) (fun b=>(b,.map #[] 0)::L) (fun _=>Φ):=by
 intro a w K Q d e
 refine A8j (by rw [c];rfl) ?_
 unfold Oper.wp
 rw [show (execOp a.eval o).run P w=.ok (.value (.map (some w.heap.size))) (w.alloc (.map #[] 0)) by
  simp only [execOp,c,Sem.run_bind,Option.map_none,run_makeMap];rfl]
 exact e w.heap.size _ (d.world.alloc _)
structure MapTy (P:Program) (T k e:Nat) (kd:TypeDesc):Prop where
 ty:P.underlying T=some (.map k e)
 key:P.underlying k=some kd
 plain:(match kd with | .int _ | .string | .bool=>true | _=>false)=true
theorem A2k {T k e:Nat} {a:TypeDesc} (b:MapTy P T k e a) (c:Bool) (v:Value) (w:World):(Instr.checkKey c 10000 k v).run P w=.ok () w:=by
 have d:=b.plain
 unfold Instr.checkKey
 rw [Sem.run_bind,run_underlying b.key]
 cases a<;>simp_all
theorem A3e {T k e:Nat} {a:TypeDesc} (b:MapTy P T k e a) {v:Value} {es:List MapEntry} {r:Option (Nat×Value)} (h:Instr.findNow a v es 0=some r) (w:World):(Instr.findKey k v es).run P w=.ok r w:=by
 unfold Instr.findKey
 rw [Sem.run_bind,run_underlying b.key]
 simp [h]
theorem D8h {w:World} {r:Nat} {es:Array MapEntry} {a:Nat} (h:w.heap[r]?=some (.map es a)):(getObj r).run P w=.ok (.map es a) w:=by simp [getObj,Sem.run,h]
theorem F5e {w:World} {r:Nat} {es:Array MapEntry} {a:Nat} (o:Obj) (h:w.heap[r]?=some (.map es a)):(setObj r o).run P w=.ok () {w with heap:=w.heap.setIfInBounds r o}:=by simp [setObj,Sem.run,h]
theorem C0d {w:World} (c:cC X L Φ w) {i b:Nat} {o:Obj} (d:L[i]?=some (b,o)):w.heap[b]?=some o:=by
 obtain ⟨p,a⟩:=c
 exact D0a a d
theorem F3 {o:Oper} {T k e:Nat} {t:TypeDesc} {m q f:Operand} {b:Nat} {h v:Value} {es es':Array MapEntry} {c:Nat} (s:MapTy P T k e t) (d:o.op=.insert T m q f∨o.op=.mapUpdate T m q f) (hm:ev E m=some (.map (some b))) (z:ev E q=some h) (y:ev E f=some v)
  (i:Nat) (u:L[i]?=some (b,.map es c)) (x:Instr.findNow t h es.toList 0=some none) (he:es.push ⟨h,v,c⟩=es') :
  Tri P n X o E L Φ Unit (fun _=>undef) (fun _=>L.set i (b,.map es' (c+1))) (fun _=>Φ):=by
 intro a w K Q g p
 have l:=C0d g.world u
 subst he
 have hr:(execOp a.eval o).run P w=.ok .skip {w with heap:=w.heap.setIfInBounds b (.map (es.push ⟨h,v,c⟩) (c+1))}:=by
  rcases d with d | d <;>
  simp [execOp,d,C3 g.has hm,C3 g.has z,C3 g.has y,Instr.mapUpdate,run_underlying s.ty,D8h l,F5e _ l,A2k s,A3e s x]
 have r:b<w.heap.size:=(Array.getElem?_eq_some_iff.1 l).1
 refine A8j (by rcases d with d | d<;>rw [d]<;>rfl) ?_
 unfold Oper.wp
 rw [hr]
 refine p () _ (g.world.set u ?_ (fun j hj=>?_) rfl rfl rfl oom)
 ·simp [r]
 ·simp [Array.getElem?_setIfInBounds,Ne.symm hj]
theorem A5g {o:Oper} {T k e:Nat} {g:TypeDesc} {m d:Operand} {b j:Nat} {f v:Value} {es:Array MapEntry} {c:Nat} (a:MapTy P T k e g) (q:o.op=.lookup T m d true) (t:ev E m=some (.map (some b))) (s:ev E d=some f)
  (i:Nat) (r:L[i]?=some (b,.map es c)) (l:Instr.findNow g f es.toList 0=some (some (j,v))):I6 P X o E L Φ (.tuple #[v,.bool true]):=.of_run fun u w h p=>by
 have n:=C0d p r
 simp [execOp,q,C3 h t,C3 h s,Instr.lookup,run_underlying a.ty,D8h n,A2k a,A3e a l]
theorem B8p {o:Oper} {T k e:Nat} {g:TypeDesc} {m d:Operand} {b j:Nat} {f v:Value} {es:Array MapEntry} {c:Nat} (a:MapTy P T k e g) (q:o.op=.lookup T m d false) (t:ev E m=some (.map (some b))) (s:ev E d=some f)
  (i:Nat) (r:L[i]?=some (b,.map es c)) (l:Instr.findNow g f es.toList 0=some (some (j,v))):I6 P X o E L Φ v:=.of_run fun u w h p=>by
 have n:=C0d p r
 simp [execOp,q,C3 h t,C3 h s,Instr.lookup,run_underlying a.ty,D8h n,A2k a,A3e a l]
theorem E4k {o:Oper} {T:TypeId} {d:TypeDesc} {x:Operand} {v:Value} (a:P.underlying T=some d) (e:(match d with | .interface _=>false | _=>true)=true) (g:o.op=.makeInterface T x) (b:ev E x=some v):I6 P X o E L Φ (.iface T v):=.of_run fun f w c _=>by
 cases d<;>simp_all [execOp,Instr.makeInterface,C3 c b,run_underlying a]
def F2c {ρ:Type} (pv:Value) (val:ρ→Value):Option ρ→Ending
 | some r=>.returned (val r)
 | none=>.panicked [{v:=pv,recovered:=false}]
def C3c (P:Program) (f:FuncId) (args:List Value) (L0:Own) (Φ0:List Pers) {ρ:Type} (pv:Value) (R:Option ρ) (val:ρ→Value):Prop :=
 HasBody P f∧∀ (w:World) (h:Hp),(∀ q ∈ Φ0,q.p h)→h.sub w→A2i L0 h w →
  Calls P f args.toArray w fun e w'=>cC (cx w h (L0.map Prod.fst)) [] [] w'∧e=F2c pv val R
def E2j (P:Program) (X:Cx) (a:Func) {ρ:Type} (pv:Value) (R:Option ρ) (val:ρ→Value):Exit→Act→World→Prop :=
 bodyPostM (FW none) 0 P a fun e w'=>cC X [] [] w'∧e=F2c pv val R
theorem A6e {f:FuncId} {a:Func} {c:Code} {args:List Value} {L0:Own} {Φ0:List Pers} {ρ:Type} {pv:Value} {R:Option ρ} {val:ρ→Value}
  (k : P.funcs[f]? = some a) (i : a.body = some c) (j : (a.name == "runtime.NumGoroutine") = false) (l : a.ntmps = n) (g : Nat.ble args.length n = true) (E0 : bX) (hE : S6 ((List.range args.length).zip args) E0)
  (h:∀ X:Cx,X.M=L0.map Prod.fst→X.rho=none→X.D=[]→J P n X c (E2j P X a pv R val) E0 L0 Φ0):C3c P f args L0 Φ0 pv R val:=by
 refine ⟨⟨by simp [k,i,j]⟩,fun w p r s q=>?_⟩
 have m:args.length≤n:=Nat.le_of_ble_eq_true g
 refine (callsIn_wide (n:=0)).1 (callsIn_of_wp_marks (F:=Fence.wide) k i trivial (h (cx w p (L0.map Prod.fst)) rfl rfl rfl _ w ⟨?_,rfl,?_,p,⟨r,s,Hp.le_refl p,fun b i=>.inl i,q,fun e t=>.inl (List.mem_map_of_mem t),KeptBut.refl _ w,fun d o=>by cases o⟩⟩))
 ·simp [l];omega
 ·rw [l];exact C0i g hE
theorem D2u {X':Cx} {a:Act} {w:World} {i:Func} {ρ:Type} {pv:Value} {R:Option ρ} {val:ρ→Value} {v:Value} {r:ρ} (hX:X'=X.wd X'.D) (g:X=X.wd []) (b:X.rho=none) (c:(X'.D.map Prod.fst).Nodup∧∀ d ∈ X'.D,d.2=.deferred (some [])) (hr:Res P n X i E L Φ v) (hR:R=some r) (j:val r=v)
  (h:St n X' E L Φ a w):LeavesInM (FW none) 0 P i a.tmps (fun e w'=>cC X [] [] w'∧e=F2c pv val R) a.defers .returning w:=by
 have k:X'.marks=X'.D.map (C1t ·.1):=by rw [hX];unfold Cx.marks Cx.wd;simp only [b]
 rw [h.defers,k]
 refine B2e (X:=X) (L:=L) (Φ:=Φ) X'.D c.1 c.2 w (hX▸h.world) fun w' f=>⟨v,?_,?_,by rw [hR,← j];rfl⟩
 ·rw [g] at hr
  exact hr {a with defers:=[]} w' ⟨h.size,by unfold Cx.marks Cx.wd;simp only [b];rfl,h.has,f⟩
 ·rw [g];exact (f.sub (List.nil_sublist _)).foll A9.nil
theorem B2m {X':Cx} {f:Func} {ρ:Type} {pv:Value} {R:Option ρ} {val:ρ→Value} {v:Value} {r:ρ} (hX:X'=X.wd X'.D) (b:X.rho=none∧X.D=[]) (c:(X'.D.map Prod.fst).Nodup∧∀ d ∈ X'.D,d.2=.deferred (some [])) (hr:Res P n X f E L Φ v) (hR:R=some r) (h:val r=v) :
  JQ n X' (E2j P X f pv R val .ret) E L Φ:=fun a w i=>D2u hX (by obtain ⟨k,j,M,r,D⟩:=X;obtain ⟨g,e⟩:=b;simp only at g e;subst g e;rfl) b.1 c hr hR h i
theorem B7o {X':Cx} {f:Func} {ρ:Type} {pv:Value} {R:Option ρ} {val:ρ→Value} {v:Value} {r:ρ} (hX:X'=X.wd X'.D) (b:X.rho=none∧X.D=[]) (c:(X'.D.map Prod.fst).Nodup∧∀ d ∈ X'.D,d.2=.deferred (some [])) (hr:Res P n X f E L Φ v) (hR:R=some r) (h:val r=v) :
  JQ n X' (E2j P X f pv R val .normal) E L Φ:=fun a w i=>D2u hX (by obtain ⟨k,j,M,r,D⟩:=X;obtain ⟨g,e⟩:=b;simp only at g e;subst g e;rfl) b.1 c hr hR h i
theorem Q4 {c:Func} {ρ:Type} {pv:Value} {R:Option ρ} {val:ρ→Value} (b:X.rho=none∧X.D=[]) (hR:R=none) :
  JQ n X (E2j P X c pv R val (.panic [{v:=pv,recovered:=false}])) E L Φ:=fun a w d=>by
 have e:a.defers=[]:=by rw [d.defers];unfold Cx.marks;rw [b.1,b.2];rfl
 show LeavesInM (FW none) 0 P c a.tmps _ a.defers _ w
 rw [e,hR]
 exact ⟨(d.world.sub (List.nil_sublist _)).foll A9.nil,rfl⟩
theorem E6z {b:Array Oper} {i m:Nat} {o:Oper} {x:Operand} {T:TypeId} {v:Value} (g:C3r n b i E=some o) (e:o.op=.panic x) (j:ev E x=some (.iface T v)) (h:JQ n X (Q (.panic [{v:=.iface T v,recovered:=false}])) E L Φ) :
  JI P n X b i (m+1) K Q E L Φ:=by
 intro a w d
 obtain ⟨l,k,_⟩:=L6 g
 rw [B2k l,List.take_succ_cons]
 refine wpListIn_step fun K' p=>?_
 rw [if_pos (A0o d.has k)]
 refine ⟨fun _ _=>trivial,?_⟩
 rw [Oper.semAt_eq _ _ _ (fun c f=>by rw [e] at f;cases f)]
 rw [show (execOp a.eval o).run P w=.halt (.panic (.iface T v)) w by simp [execOp,e,C3 d.has j,Instr.panic,goPanic]]
 exact h a w d
theorem A0c {d:Array Oper} {i m:Nat} {o:Oper} {c:Call} {fv:Operand} {k:FuncId} {first cap:Array Value} {y args:List Value} {L0 L2:Own} {Φ0:List Pers} {ρ:Type} {pv:Value} {R:Option ρ} {val:ρ→Value}
  (b:C3c P k args L0 Φ0 pv R val) (u:C3r n d i E=some o) (z:o.op=.call c) (hc:c.callee=.value fv) (hf:ev E fv=some (.func (.func k) first cap)) (f:c.args.toList.mapM (ev E)=some y) (ha:(first++y.toArray++cap).toList=args)
  (hΦ:A9 Φ Φ0) (x:L.Perm (L0++L2)) (h1:∀ r,R=some r→JI P n X d (i+1) m K Q (bX.put E o.dst (val r)) L2 Φ) (h2:R=none→JQ n X (Q (.panic [{v:=pv,recovered:=false}])) E L2 Φ):JI P n X d i (m+1) K Q E L Φ:=by
 intro a w g
 obtain ⟨e1,e2,e3⟩:=L6 u
 rw [B2k e1,List.take_succ_cons]
 refine wpListIn_step fun K' hK=>?_
 rw [if_pos (A0o g.has e2)]
 obtain ⟨p,s⟩:=g.world
 have hr:=C9m g.has z hc hf f b.1 w
 have t:A2i (L0++L2) p w:=⟨fun e j=>s.own.1 e (x.symm.subset j),(x.map Prod.fst).nodup_iff.1 s.own.2⟩
 have:=b.2 w p (hΦ p s.facts) s.sub (t.sub (List.sublist_append_left _ _))
 rw [← ha,Array.toArray_toList] at this
 refine ⟨fun _ _=>trivial,?_⟩
 rw [Oper.semAt_eq _ _ _ (fun c q=>by rw [z] at q;cases q),hr]
 refine ⟨A8f,(B5v this).mono fun e w' ⟨hw,j⟩=>?_⟩
 have l:cC X L2 Φ w':=by
  have:=cC.call s x hw
  simpa using this
 cases hR:R with
 | some r =>
  rw [hR] at j
  subst j
  exact hK _ _ (h1 r hR _ _ (g.put e3 (val r) l))
 | none =>
  rw [hR] at j
  subst j
  exact h2 hR a w' ⟨g.size,g.defers,g.has,l⟩
theorem B1l {ρ σ:Type} {o:Option ρ} {k:ρ→Option σ} {R:Option σ} {r:ρ} (h:Option.bind o k=R) (hr:o=some r):k r=R:=by subst hr;exact h
theorem B1k {ρ σ:Type} {o:Option ρ} {k:ρ→Option σ} {R:Option σ} (h:Option.bind o k=R) (hr:o=none):none=R:=by subst hr;exact h
theorem D8n {o:Oper} {T e sz a b:Nat} {agg:Bool} {x y:Operand} {m:Int} (g:P.underlying T=some (.array a e)) (f:Ty P e sz agg) (h:o.op=.indexAddr T x y)
  (c:ev E x=some (.pointer (some ⟨b,0,none⟩))) (j:ev E y=some (.int .i64 m)) (k:Nat) (d:m=k) (i:k<a):I6 P X o E L Φ (.pointer (some ⟨b,k * sz,none⟩)):=by
 have:=C1v (L:=L) (Φ:=Φ) (X:=X) g f h c j k d i
 rwa [A1h,Nat.zero_add] at this
abbrev A0y:Value:=.iface 225 (.agg #[])
theorem D5i {α:Type} {c:α→List Value} {sz:Nat} {q:Option Addr} {xs:List α} (h:S1 Φ (sl c q xs)) (l m:Nat) (b:∀ x,(c x).length=sz) (a:l≤xs.length) (d:xs.length≤m):S1 Φ (sl c (A9p q l sz m) (xs.drop l)) :=
 E0x h l xs.length m b (by rw [List.take_of_length_le oom]) a d
theorem E6f {o:Oper} {c:Call} {T e sz t:Nat} {x y:Operand} {α:Type} {f:α→List Value} {xs ys:List α} {qx qy:Option Addr} {n1 k1 m cc:Nat} (hT:ApTy P T e sz t) (hf:∀ x,(f x).length=sz) (aw:∀ x,(f x).all (·.oneCell')=true)
  (ho:o.op=.call c) (hc:c.callee=.builtin .append) (a2:c.args=#[x,y]) (a3:c.argTypes=#[T,T]) (hx:ev E x=some (.slice qx n1 k1)) (hy:ev E y=some (.slice qy m cc)) (aq:n1=xs.length) (ai:k1=xs.length) (hm:m=ys.length)
  (v:S1 Φ (sl f qx xs)) (l:S1 Φ (sl f qy ys)) (ak:0<ys.length) (hb:(xs.length+ys.length) * t≤140737488355328) (a1:xs.length+ys.length≤9223372036854775807) :
  Tri P n X o E L Φ {r':VR // bR sz (xs++ys).length r'} (fun r'=>vv r'.1 (xs++ys).length) (fun r'=>L++(vo f e r'.1 (xs++ys)++[])) (fun _=>Φ):=by
 subst aq ai hm
 cases qx with
 | none =>
  intro ac w K Q s hk
  obtain ⟨p,q⟩:=s.world
  have h0:xs=[]:=v p q.facts
  subst h0
  exact B8y (r:=VR.nil) (xs:=[]) (pre:=L) (post:=[]) hT hf aw ho hc a2 a3 hx hy rfl (by simp [vo,VR.nil]) l bR.nil hb a1 ac w K Q s hk
 | some a =>
  intro ac w K Q s hk
  obtain ⟨p,q⟩:=s.world
  cases qy with
  | none=>have h0:ys=[]:=l p q.facts;subst h0;simp at ak
  | some a' =>
   have c1:A7i p a (xs.flatMap f):=v p q.facts
   have c2:A7i p a' (ys.flatMap f):=l p q.facts
   obtain ⟨i,hi,b⟩:=Option.map_eq_some_iff.1 hT.info
   simp only [Prod.mk.injEq] at b
   obtain ⟨h4,h5,h6⟩:=b
   obtain ⟨z,hz,h6⟩:=Option.map_eq_some_iff.1 h6
   have a6:0<sz:=by simpa [Nat.blt_eq] using hT.pos
   obtain ⟨v',w',a4,⟨b4,am⟩,hg⟩:=run_append_arg_grows (P:=P) w T o.type e i z sz t hT.ty hi hz h4 h5 h6 a6 a xs.length xs.length (xs.flatMap f) (G4 hf xs) (fun j u hj=>c1.cell q.sub hj)
    a' ys.length cc (ys.flatMap f) (G4 hf ys) (fun j u hj=>c2.cell q.sub hj) opx a1 hb
   have ao:KeptBut (([]:Own).map Prod.fst) w w':=⟨hg.os,hg.tape,hg.output,hg.size,fun k hk _=>hg.block k hk oom⟩
   refine A8j (by rw [ho];rfl) ?_
   unfold Oper.wp
   rw [show (execOp ac.eval o).run P w=.ok (.value v') w' by
    simp [execOp,ho,resolve,hc,a2,a3,C3 s.has hx,C3 s.has hy,invoke,builtin,a4]]
   rcases am with ⟨rfl,bc⟩ | ⟨g,cap,cur,rfl,ah,d,a9,a0,ab,h⟩
   ·omega
   ·have aj:cC X (L++([bx g ((xs++ys).flatMap f++cur.toList.drop ((xs.length+ys.length) * sz)) e]++[])) Φ w':=by
     refine cC.turn (L0:=[]) (show cC X (L++([]++[])) Φ w by simpa using s.world) ao ?_ oom
     intro e' he
     obtain rfl:e'=_:=by simpa using he
     refine ⟨?_,.inr ah⟩
     simp only
     rw [d,← List.append_assoc,← h,List.take_append_drop]
    have:=hk ⟨⟨some g,cap,cur.toList.drop ((xs.length+ys.length) * sz)⟩,?_⟩ w' (by simpa [vo] using aj)
    ·simp only [vv,va,List.length_append] at this
     exact this
    ·have h9:(xs.length+ys.length) * sz≤cap * sz:=Nat.mul_le_mul_right _ a9
     refine ⟨?_,by simpa using a9,a0⟩
     simp only [List.length_drop,Array.length_toList,ab,List.length_append]
     omega
theorem D5c (s:List UInt8):byteCells (bs s)=s.flatMap cG:=by
 simp only [byteCells,bs,cG]
 induction s with
 | nil=>rfl
 | cons x s ih =>
  simp only [List.flatMap_cons]
  rw [← ih]
  rfl
theorem E0u {w:World} {T ty e:TypeId} {i:TypeInfo} (b:P.underlying T=some (.slice e)) (f:P.info? e=some i) (q a:Option Addr) (m k:Nat) (d:m≤k) (c:Nat):(Builtin.append_ #[T,T] ty #[.slice q m k,.slice a 0 c]).run P w=.ok (.slice q m k) w:=by
 cases q<;>cases a<;>simp [Builtin.append_,run_underlying b,sizeOf,typeInfo,f,Builtin.lenOf,Builtin.firstCells,d,storeCells,loadCells,loadCellsFrom]
theorem D6s {o:Oper} {c:Call} {T e sz v:Nat} {x y:Operand} {α:Type} {f:α→List Value} {xs ys:List α} {b qy:Option Addr} {n1 k1 m cc:Nat} (hT:ApTy P T e sz v) (hf:∀ x,(f x).length=sz) (a8:∀ x,(f x).all (·.oneCell')=true)
  (ho:o.op=.call c) (hc:c.callee=.builtin .append) (s:c.args=#[x,y]) (u:c.argTypes=#[T,T]) (hx:ev E x=some (.slice b n1 k1)) (hy:ev E y=some (.slice qy m cc)) (j:n1=xs.length) (d:k1=xs.length) (hm:m=ys.length)
  (g:S1 Φ (sl f b xs)) (a0:S1 Φ (sl f qy ys)) (hb:(xs.length+ys.length) * v≤140737488355328) (a5:xs.length+ys.length≤9223372036854775807) :
  Tri P n X o E L Φ {t:Option Addr×Nat // (xs++ys).length≤t.2} (fun t=>.slice t.1.1 (xs++ys).length t.1.2) (fun _=>L) (fun t=>sl f t.1.1 (xs++ys)::Φ):=by
 by_cases hys:0<ys.length
 ·intro z w K Q h hk
  refine E6f hT hf a8 ho hc s u hx hy j d hm g a0 hys hb a5 z w K Q h fun r w' hw=>?_
  have:=hk ⟨(va r.1.q,r.1.k),r.2.cap⟩ w' (by have:=hw.sealed (pre:=L) (post:=[]) r.2;simpa using this)
  exact this
 ·have h0:ys=[]:=by cases ys with | nil=>rfl | cons a l=>simp at hys
  subst h0
  subst j d hm
  intro z w K Q h hk
  obtain ⟨i,hi,_⟩:=Option.map_eq_some_iff.1 hT.info
  refine A8j (by rw [ho];rfl) ?_
  unfold Oper.wp
  rw [show (execOp z.eval o).run P w=.ok (.value (.slice b xs.length xs.length)) w by
   simp [execOp,ho,resolve,hc,s,u,C3 h.has hx,C3 h.has hy,invoke,builtin,E0u (P:=P) (ty:=o.type) hT.ty hi b qy xs.length xs.length (Nat.le_refl _) cc]]
  have:=hk ⟨(b,xs.length),by simp⟩ w (by
   obtain ⟨p,hp⟩:=h.world
   simp only [List.append_nil]
   exact ⟨p,{hp with facts:=fun q hq=>by rcases List.mem_cons.1 hq with rfl | hq;exact g p hp.facts;exact hp.facts q hq}⟩)
  exact (by simpa using this:K (z.put o.dst (.slice b xs.length xs.length)) w)
theorem D5y {w:World} {T tx ty e:TypeId} {i:TypeInfo} (j:P.underlying T=some (.slice e)) (h:P.info? e=some i) {b sLen sCap m TT:Nat} {x:Value} {news:List Value} {cur:Array Value} (d:Src P i.size tx x m news w)
  (g:w.heap[b]?=some (.cells cur TT (0,0))) (a:sLen+m≤sCap) (f:sLen * i.size+news.length≤cur.size) :
  (Builtin.append_ #[T,tx] ty #[.slice (some ⟨b,0,none⟩) sLen sCap,x]).run P w=.ok (.slice (some ⟨b,0,none⟩) (sLen+m) sCap) (w.setRow b (cur.toList.take (sLen * i.size)++news++cur.toList.drop (sLen * i.size+news.length)).toArray):=by
 have c:=run_storeCells_at P b (sLen * i.size) TT news 0 cur w g (by simpa using f) d.one
 simp only [Nat.add_zero] at c
 rcases d.kind with ⟨e',hk⟩ | hk<;>simp [Builtin.append_,run_underlying j,run_underlying hk,sizeOf,typeInfo,h,d.len,a,d.cells,A1h,c]
theorem olg {p:Prop} (h:p:=by simp [vo]):p:=h
theorem B9m {o:Oper} {c:Call} {T U e:Nat} {x y:Operand} {r:VR} {xs s:List UInt8} {pre post:Own} (hT:ApTy P T e 1 1) (hz:(P.info? e).bind (·.zero)=some (.int .u8 0)) (hU:P.underlying U=some .string)
  (ho:o.op=.call c) (hc:c.callee=.builtin .append) (al:c.args=#[x,y]) (am:c.argTypes=#[T,U]) (hx:ev E x=some (vv r xs.length)) (hy:ev E y=some (.string (bs s))) (hL:L=pre++(vo cG e r xs++post))
  (g:bR 1 xs.length r) (hb:xs.length+s.length≤140737488355328) :
  Tri P n X o E L Φ {r':VR // bR 1 (xs++s).length r'} (fun r'=>vv r'.1 (xs++s).length) (fun r'=>pre++(vo cG e r'.1 (xs++s)++post)) (fun _=>Φ):=by
 intro ac w K Q hs hk
 obtain ⟨i,hi,a0⟩:=Option.map_eq_some_iff.1 hT.info
 simp only [Prod.mk.injEq] at a0
 obtain ⟨h4,h5,h6⟩:=a0
 obtain ⟨i2,a6,ai⟩:=Option.bind_eq_some_iff.1 hz
 obtain rfl:i=i2:=by rw [hi] at a6;exact Option.some.inj a6
 have f:=fun w'=>Src.ofString (P:=P) w' hU (bs s)
 rw [D5c] at f
 have hw:=hs.world
 rw [hL] at hw
 have b9:(bs s).size=s.length:=rfl
 refine A8j (by rw [ho];rfl) ?_
 unfold Oper.wp
 have d:∀ v w',(Builtin.append_ #[T,U] o.type #[vv r xs.length,.string (bs s)]).run P w=.ok v w'→(execOp ac.eval o).run P w=.ok (.value v) w':=fun v w' h=>by
  simp [execOp,ho,resolve,hc,al,am,C3 hs.has hx,C3 hs.has hy,invoke,builtin,h]
 obtain ⟨q,k,j⟩:=r
 by_cases hroom:xs.length+s.length≤k
 ·cases q with
  | none =>
   have h0:xs.length=0∧k=0:=g
   have au:s=[]:=List.eq_nil_of_length_eq_zero opx
   have a1:xs=[]:=List.eq_nil_of_length_eq_zero h0.1
   obtain ⟨_,ax⟩:=h0
   subst au a1 ax
   have:=run_append_nothing (P:=P) w T U o.type e i hT.ty hi none 0 0 (Nat.le_refl _) (.string (bs [])) (by have:=f w;rw [h4];exact this)
   rw [d _ _ this]
   exact hk ⟨⟨none,0,j⟩,g⟩ w (by simpa using hw)
  | some b =>
   have a7:xs.length * 1+j.length=k * 1∧xs.length≤k∧k≤maxLen:=g
   obtain ⟨p,hp⟩:=hw
   have z:=(hp.own.1 (bx b (xs.flatMap cG++j) e) (List.mem_append_right _ (List.mem_append_left _ olg))).1
   have a:∀ l:List UInt8,(l.flatMap cG).length=l.length:=fun l=>by rw [G4 (sz:=1) (fun _=>rfl)];omega
   have:=D5y (P:=P) (w:=w) (T:=T) (tx:=U) (ty:=o.type) hT.ty hi (b:=b) (sLen:=xs.length) (sCap:=k) (m:=s.length) (TT:=e) (x:=.string (bs s)) (news:=s.flatMap cG) (cur:=(xs.flatMap cG++j).toArray) (by rw [h4];exact f w) z hroom (by rw [h4];simp [a];omega)
   rw [d _ _ this]
   have e1:(((xs.flatMap cG++j).toArray.toList.take (xs.length * i.size)++s.flatMap cG++(xs.flatMap cG++j).toArray.toList.drop (xs.length * i.size+(s.flatMap cG).length)).toArray)=(((xs++s).flatMap cG)++j.drop s.length).toArray:=by
    rw [h4,Nat.mul_one,a]
    simp only [List.flatMap_append]
    rw [List.take_append_of_le_length (by rw [a];omega),List.take_of_length_le (by rw [a];omega),List.drop_append,a,List.drop_of_length_le (by rw [a];omega),List.nil_append,show xs.length+s.length - xs.length=s.length by omega]
   rw [e1]
   have a3:KeptBut (([bx b (xs.flatMap cG++j) e]:Own).map Prod.fst) w (w.setRow b (((xs++s).flatMap cG)++j.drop s.length).toArray):=⟨rfl,rfl,rfl,by simp,fun k' aj hm=>setRow_other w b k' _ (by rintro rfl;exact hm oom)⟩
   have a2:cC X (pre++([bx b ((xs++s).flatMap cG++j.drop s.length) e]++post)) Φ (w.setRow b (((xs++s).flatMap cG)++j.drop s.length).toArray):=by
    refine cC.turn (L0:=[bx b (xs.flatMap cG++j) e]) ⟨p,hp⟩ a3 ?_ oom
    intro e' he
    obtain rfl:e'=_:=by simpa using he
    refine ⟨?_,.inl oom⟩
    have:=setRow_heap w b _ (((xs++s).flatMap cG)++j.drop s.length).toArray e (0,0) z
    simpa using this
   have:=hk ⟨⟨some b,k,j.drop s.length⟩,?_⟩ _ a2
   ·simp only [vv,va,List.length_append] at this
    exact this
   ·refine ⟨?_,by simpa using hroom,a7.2.2⟩
    simp only [List.length_drop,List.length_append];omega
 ·have hg:k<xs.length+s.length:=by omega
  have b1:0<i.size:=by rw [h4];exact Nat.one_pos
  obtain ⟨p,hp⟩:=hw
  have a:∀ l:List UInt8,(l.flatMap cG).length=l.length:=fun l=>by rw [G4 (sz:=1) (fun _=>rfl)];omega
  have a5:∀ w':World,(w'.heap=w.heap)→(Builtin.firstCells i.size xs.length (.slice (va q) xs.length k)).run P w'=.ok (xs.flatMap cG).toArray w':=by
   intro w' ah
   cases q with
   | none =>
    have h0:xs.length=0∧k=0:=g
    have a1:xs=[]:=List.eq_nil_of_length_eq_zero h0.1
    subst a1
    simp [va,Builtin.firstCells]
   | some b =>
    have z:=(hp.own.1 (bx b (xs.flatMap cG++j) e) (List.mem_append_right _ (List.mem_append_left _ olg))).1
    exact run_firstCells_some w' i.size xs.length ⟨b,0,none⟩ xs.length k (xs.flatMap cG) (by rw [a,h4];omega) fun t u ht=>by
     rw [A1h]
     simp only [World.cell?,ah,z,Nat.zero_add]
     rw [List.getElem?_toArray,List.getElem?_append_left (List.getElem?_eq_some_iff.1 ht).1]
     exact ht
  have hr:=run_append_grow_src (P:=P) w T U o.type e i (.int .u8 0) hT.ty hi ai (va q) xs.length k (xs.flatMap cG) (a5 w.drew rfl) (.string (bs s)) s.length (s.flatMap cG) (by rw [h4];exact f w) hg opx (growslice_fits hg (by rw [h5];omega))
  rw [d _ _ hr]
  have an:=grownCap_ge w (xs.length+s.length) k e
  have ak:grownCap w (xs.length+s.length) k e≤maxLen:=grownCap_le_maxLen w (xs.length+s.length) k e (by unfold maxLen;omega)
  have a3:KeptBut ((vo cG e ⟨q,k,j⟩ xs).map Prod.fst) w (w.drew.alloc (.cells ((xs.flatMap cG++s.flatMap cG).toArray++Builtin.zeroCells (Value.int .u8 0).cells (grownCap w (xs.length+s.length) k e - (xs.length+s.length))) e)) :=
   ⟨rfl,rfl,rfl,by simp,fun k' aj _=>(by show (w.heap.push _)[k']?=_;rw [Array.getElem?_push,if_neg opx])⟩
  have a2:cC X (pre++([bx w.heap.size ((xs++s).flatMap cG++(Builtin.zeroCells (Value.int .u8 0).cells (grownCap w (xs.length+s.length) k e - (xs.length+s.length))).toList) e]++post)) Φ (w.drew.alloc (.cells ((xs.flatMap cG++s.flatMap cG).toArray++Builtin.zeroCells (Value.int .u8 0).cells (grownCap w (xs.length+s.length) k e - (xs.length+s.length))) e)):=by
   refine cC.turn (L0:=vo cG e ⟨q,k,j⟩ xs) ⟨p,hp⟩ a3 ?_ oom
   intro e' he
   obtain rfl:e'=_:=by simpa using he
   refine ⟨?_,.inr (Nat.le_refl _)⟩
   simp only
   rw [show (w.drew.alloc (Obj.cells ((xs.flatMap cG++s.flatMap cG).toArray++Builtin.zeroCells (Value.int .u8 0).cells (grownCap w (xs.length+s.length) k e - (xs.length+s.length))) e)).heap[w.heap.size]?=_ from heap_alloc_new w.drew _]
   simp [List.flatMap_append]
  have:=hk ⟨⟨some w.heap.size,grownCap w (xs.length+s.length) k e,(Builtin.zeroCells (Value.int .u8 0).cells (grownCap w (xs.length+s.length) k e - (xs.length+s.length))).toList⟩,?_⟩ _ a2
  ·simp only [vv,va,List.length_append] at this
   exact this
  ·refine ⟨?_,by simpa using an,ak⟩
   have ao:(Value.int IntKind.u8 0).cells.size=1:=rfl
   simp only [Array.length_toList,size_zeroCells,ao,List.length_append];omega
theorem C0h {n:Int}:Value.int .u8 (IntKind.u8.wrap n)=.int .u8 ((by8 (IntKind.u8.wrap n)).toNat:Int):=by
 rw [C0k]
 unfold IntKind.wrap
 simp [IntKind.bits,IntKind.signed]
 omega
theorem C6n {c:BinOp} {a b:Int}:Value.int .u8 (bW c .u8 a b)=.int .u8 ((by8 (bW c .u8 a b)).toNat:Int):=by
 unfold bW;exact C0h
end
end Go.Fen
namespace Go.Fen
open Go
theorem I4.append {α:Type} {rs b:List Slc} {xss a:List (List α)} (c:I4 rs xss) (e:I4 b a):I4 (rs++b) (xss++a):=by
 refine ⟨by simp [c.1,e.1],fun i r xs hr d=>?_⟩
 by_cases hi:i<rs.length
 ·rw [List.getElem?_append_left hi] at hr
  rw [List.getElem?_append_left (by have:=c.1;omega)] at d
  exact c.2 i r xs hr d
 ·have:=c.1
  rw [List.getElem?_append_right opx] at hr
  rw [List.getElem?_append_right opx] at d
  exact e.2 (i - rs.length) r xs hr (by rw [this];exact d)
theorem I4.set {α:Type} {rs:List Slc} {xss:List (List α)} (h:I4 rs xss) (k:Nat) {r:Slc} {xs:List α} (hr:r.n=xs.length∧r.n≤r.k∧xs.length≤9223372036854775807):I4 (rs.set k r) (xss.set k xs):=by
 refine ⟨by simp [h.1],fun i d c b a=>?_⟩
 rw [List.getElem?_set] at b a
 by_cases hk:k=i
 ·subst hk
  simp only [if_true] at b a
  split at b
  ·split at a
   ·obtain rfl:=Option.some.inj b
    obtain rfl:=Option.some.inj a
    exact hr
   ·cases a
  ·cases b
 ·simp only [hk,if_false] at b a
  exact h.2 i d c b a
section
variable {P:Program} {n:Nat} {X:Cx} {K:Act→World→Prop} {Q:Exit→Act→World→Prop} {E E':bX} {L L':Own} {Φ Φ':List Pers}
theorem D5z {α:Type} {c:α→List Value} {rs b:List Slc} {xss a:List (List α)} (g:rs.length=xss.length) (f:S1 Φ (U6 c rs xss)) (h:S1 Φ (U6 c b a)):S1 Φ (U6 c (rs++b) (xss++a)):=fun p e i r xs hr d=>by
 by_cases hi:i<rs.length
 ·rw [List.getElem?_append_left hi] at hr
  rw [List.getElem?_append_left opx] at d
  exact f p e i r xs hr d
 ·rw [List.getElem?_append_right opx] at hr
  rw [List.getElem?_append_right opx] at d
  exact h p e (i - rs.length) r xs hr (by rw [g];exact d)
theorem E7k {α:Type} {c:α→List Value} {rs:List Slc} {xss:List (List α)} (k:Nat) {r:Slc} {xs:List α} (f:S1 Φ (U6 c rs xss)) (g:S1 Φ (sl c r.q xs)):S1 Φ (U6 c (rs.set k r) (xss.set k xs)):=fun p d i e b hr a=>by
 rw [List.getElem?_set] at hr a
 by_cases hk:k=i
 ·subst hk
  simp only [if_true] at hr a
  split at hr
  ·split at a
   ·obtain rfl:=Option.some.inj hr
    obtain rfl:=Option.some.inj a
    exact g p d
   ·cases a
  ·cases hr
 ·simp only [hk,if_false] at hr a
  exact f p d i e b hr a
theorem B7e {o:Oper} {c:Call} {T e g:Nat} {x y:Operand} {α:Type} {cc:α→List Value} {r:VR} {rs ys:List Slc} {xss a:List (List α)} {q:Option Addr} {k m kk:Nat} {pre post:Own} (hT:ApTy P T e 1 g)
  (ho:o.op=.call c) (hc:c.callee=.builtin .append) (t:c.args=#[x,y]) (u:c.argTypes=#[T,T]) (hx:ev E x=some (vv r k)) (hk:k=xss.length) (hy:ev E y=some (.slice q m kk)) (hm:m=a.length) (hL:L=pre++(vo A3d e r rs++post))
  (hq:S1 Φ (sl A3d q ys)) (h1:S1 Φ (U6 cc rs xss)) (h2:S1 Φ (U6 cc ys a)) (h:I4 rs xss) (l:I4 ys a) (j:bR 1 xss.length r) (hb:(xss.length+a.length) * g≤140737488355328) (aa:xss.length+a.length≤9223372036854775807) :
  Tri P n X o E L Φ {b:VR // bR 1 (xss++a).length b} (fun b=>vv b.1 (xss++a).length) (fun b=>pre++(vo A3d e b.1 (rs++ys)++post)) (fun _=>U6 cc (rs++ys) (xss++a)::Φ):=by
 have d:=h.1
 have v:=l.1
 have e3:(rs++ys).length=(xss++a).length:=by simp [d,v]
 intro ac w K Q hs hK
 refine B8y (f:=A3d) (xs:=rs) (ys:=ys) hT (fun _=>rfl) (fun _=>rfl) ho hc t u (by rw [d,← hk];exact hx) hy opx hL hq (by rw [d];exact j) (by rw [d,v];exact hb) opx ac w K Q hs fun b w' hw=>?_
 have:=hK ⟨b.1,e3▸b.2⟩ w' (by
  obtain ⟨p,s⟩:=hw
  exact ⟨p,{s with facts:=fun z i=>by rcases List.mem_cons.1 i with rfl | i;exact D5z d h1 h2 p s.facts;exact s.facts z i}⟩)
 simp only [e3]
 exact this
theorem D4y {w:World} {T tx ty e:TypeId} {i:TypeInfo} {z:Value} (p:P.underlying T=some (.slice e)) (l:P.underlying tx=some (.int .i64)) (n:P.info? e=some i) (r:i.zero=some z) (m:Nat) (j:0<m)
  (o:m≤9223372036854775807) (q:m * i.bytes≤281474976710656) (s:0<i.size) :
  (Builtin.append_ #[T,tx] ty #[.slice none 0 0,.int .i64 m]).run P w =
   .ok (.slice (some ⟨w.heap.size,0,none⟩) m (grownCap w m 0 e)) (w.drew.alloc (.cells (Builtin.zeroCells z.cells m++Builtin.zeroCells z.cells (grownCap w m 0 e - m)) e)):=by
 have f:m≠0:=by omega
 have b:¬ (9223372036854775807<(m:Int)):=by omega
 have d:¬ (281474976710656<Builtin.nextslicecap m 0 * i.bytes):=by rw [nextslicecap_zero j];omega
 have k:IntKind.i64.wrap (m:Int)=m:=A0j (by show (-9223372036854775808:Int)≤_;omega) (by show _≤(9223372036854775807:Int);omega)
 have a:¬ ((m:Int)<0):=by omega
 have g:¬ (281474976710656<(m:Int) * (i.bytes:Int)):=by omega
 have c:i.size≠0:=by omega
 simp [Builtin.append_,run_underlying p,run_underlying l,sizeOf,typeInfo,zeroValue,n,r,Builtin.lenOf,f,b,d,k,a,g,c,Question.forced,run_firstCells_none,newRow,grownCap,asInt,asIntOf]
 intro h;exact absurd h (Nat.mul_ne_zero f c)
theorem D4a {o:Oper} {c:Call} {T tx e sz g m:Nat} {x y:Operand} {α:Type} {f:α→List Value} (hT:ApTy P T e sz g) (l:P.underlying tx=some (.int .i64))
  (ho:o.op=.call c) (hc:c.callee=.builtin .append) (s:c.args=#[x,y]) (t:c.argTypes=#[T,tx]) (hx:ev E x=some (.slice none 0 0)) (hy:ev E y=some (.int .i64 (m:Int))) (h0:0<m) (hb:m * g≤140737488355328) (p:m≤9223372036854775807) :
  Tri P n X o E L Φ {b:VR // bR sz 0 b∧m≤b.k} (fun b=>.slice (va b.1.q) m b.1.k) (fun b=>L++(vo f e b.1 []++[])) (fun _=>Φ):=by
 intro ac w K Q r hk
 obtain ⟨i,hi,a⟩:=Option.map_eq_some_iff.1 hT.info
 simp only [Prod.mk.injEq] at a
 obtain ⟨h4,h5,u⟩:=a
 obtain ⟨z,hz,u⟩:=Option.map_eq_some_iff.1 u
 have a1:0<sz:=by simpa [Nat.blt_eq] using hT.pos
 have v:=grownCap_ge w m 0 e
 have h:=grownCap_le_maxLen w m 0 e (by simp only [maxLen];omega)
 refine A8j (by rw [ho];rfl) ?_
 unfold Oper.wp
 rw [show (execOp ac.eval o).run P w=.ok (.value (.slice (some ⟨w.heap.size,0,none⟩) m (grownCap w m 0 e))) (w.drew.alloc (.cells (Builtin.zeroCells z.cells m++Builtin.zeroCells z.cells (grownCap w m 0 e - m)) e)) by
  simp [execOp,ho,resolve,hc,s,t,C3 r.has hx,C3 r.has hy,invoke,builtin,D4y (P:=P) (ty:=o.type) hT.ty l hi hz m h0 p (by rw [h5];omega) opx]]
 obtain ⟨cur,hcur⟩:∃ cur,cur=Builtin.zeroCells z.cells m++Builtin.zeroCells z.cells (grownCap w m 0 e - m):=⟨_,rfl⟩
 rw [← hcur]
 have d:cur.toList.length=grownCap w m 0 e * sz:=by
  rw [hcur];simp only [Array.length_toList,Array.size_append,size_zeroCells,u,← Nat.add_mul];congr 1;omega
 have:=hk ⟨⟨some w.heap.size,grownCap w m 0 e,cur.toList⟩,⟨by simp [d],Nat.zero_le _,h⟩,v⟩ (w.drew.alloc (.cells cur e)) (by
  refine cC.turn (L0:=[]) (show cC X (L++([]++[])) Φ w by simpa using r.world) ⟨rfl,rfl,rfl,by simp,fun k j _=>heap_alloc_old w.drew _ j⟩ ?_ olg
  intro e' he
  obtain rfl:e'=_:=by simpa [vo] using he
  exact ⟨by simpa using heap_alloc_new w.drew (.cells cur e),.inr (Nat.le_refl _)⟩)
 exact (by simpa [va] using this:K (ac.put o.dst (.slice (some ⟨w.heap.size,0,none⟩) m (grownCap w m 0 e))) (w.drew.alloc (.cells cur e)))
theorem D7k {e:Array Oper} {d:Nat} {b:Array Bool} {c:V2} {Φs:List Pers} {q:Pers} (g:S1 Φ q) (h:JH P n X e d b K c Φs E L (q::Φ)):JH P n X e d b K c Φs E L Φ :=
 ⟨fun h1 h2 hsz hL hΦ a w hs=>h.go h1 h2 hsz hL (fun p f=>hΦ p (fun z i=>f z (List.mem_cons_of_mem _ i))) a w ⟨hs.size,hs.defers,hs.has,hs.world.fact q g⟩⟩
theorem E1v {o:Oper} {c:Call} {T e sz:Nat} {x:Operand} {q:Option Addr} {m k:Nat} (g:SlTy P T e sz) (d:o.op=.call c) (h:c.callee=.builtin .cap) (a:c.args=#[x]) (b:c.argTypes=#[T]) (f:ev E x=some (.slice q m k)):I6 P X o E L Φ (.int .i64 k):=.of_run fun j w i _=>by
 simp [execOp,d,resolve,h,a,b,C3 i f,invoke,builtin,Builtin.cap_,run_underlying g.ty,goInt]
end
section
variable {P:Program} {n:Nat} {X:Cx} {K:Act→World→Prop} {Q:Exit→Act→World→Prop} {E E':bX} {L L':Own} {Φ Φ':List Pers}
theorem D3e {α:Type} {c:α→List Value} {sz:Nat} (a:∀ x,(c x).length=sz) (d:α):∀ (xs:List α) (k:Nat),k<xs.length→((xs.flatMap c).drop (k * sz)).take sz=c (xs.getD k d)
 | [],k,h=>by simp at h
 | x::xs,0,_=>by simp [List.take_append_of_le_length,← a x]
 | x::xs,k+1,h=>by
  have:=D3e a d xs k (by simpa using h)
  rw [List.flatMap_cons,Nat.succ_mul,Nat.add_comm,← List.drop_drop,← a x,List.drop_left,a x,this];simp
theorem C5k {α:Type} {c:α→List Value} {sz:Nat} (b:∀ x,(c x).length=sz) (d:α) {xs:List α} {k j:Nat} (a:k<xs.length) (e:j<sz):(xs.flatMap c)[k * sz+j]?=(c (xs.getD k d))[j]?:=by
 rw [← D3e b d xs k a,List.getElem?_take,if_pos e,List.getElem?_drop]
theorem E8o {α:Type} {f:α→List Value} {sz:Nat} (a:∀ x,(f x).length=sz) (d:α) (n:Nat):(madeCells (f d).toArray (n * sz)).toList=(List.replicate n d).flatMap f:=by
 apply List.ext_getElem?
 intro i
 by_cases h0:sz=0
 ·have:(List.replicate n d).flatMap f=[]:=List.length_eq_zero_iff.1 (by rw [G4 a];simp [h0])
  rw [this];simp [madeCells,h0]
 ·by_cases hi:i<n * sz
  ·have b:i / sz<n:=by rw [Nat.div_lt_iff_lt_mul opx];exact hi
   have g:i % sz<sz:=Nat.mod_lt _ opx
   have e:i / sz * sz+i % sz=i:=by rw [Nat.mul_comm];exact Nat.div_add_mod i sz
   have c:=C5k a d (xs:=List.replicate n d) (k:=i / sz) (j:=i % sz) (by simpa using b) g
   rw [e] at c
   rw [c]
   have:(List.replicate n d).getD (i / sz) d=d:=by simp [List.getD_eq_getElem?_getD,List.getElem?_replicate,b]
   rw [this]
   simp [madeCells,hi,a,g]
  ·rw [List.getElem?_eq_none (by simp [madeCells];omega),List.getElem?_eq_none (by rw [G4 a];simp;omega)]
theorem B5u {o:Oper} {T e sz b l c:Nat} {x y:Operand} {α:Type} {f:α→List Value} (d:α) (hT:ApTy P T e sz b) (hz:((P.info? e).bind (·.zero)).map (·.cells)=some (f d).toArray) (hf:∀ x,(f x).length=sz)
  (ho:o.op=.makeSlice T x y) (hx:ev E x=some (.int .i64 (l:Int))) (hy:ev E y=some (.int .i64 (c:Int))) (s:l≤c) (hb:c * b≤140737488355328) (ad:c≤9223372036854775807) :
  Tri P n X o E L Φ {g:VR // bR sz (List.replicate l d).length g} (fun g=>.slice (va g.1.q) (List.replicate l d).length g.1.k) (fun g=>L++(vo f e g.1 (List.replicate l d)++[])) (fun _=>Φ):=by
 intro ac w K Q v hk
 obtain ⟨i,hi,a⟩:=Option.map_eq_some_iff.1 hT.info
 simp only [Prod.mk.injEq] at a
 obtain ⟨h4,h5,h6⟩:=a
 obtain ⟨z,j,h7⟩:=Option.map_eq_some_iff.1 h6
 have p:z.cells=(f d).toArray:=by simpa [hi,j] using hz
 have t:(i.bytes:Int) * (c:Int)≤281474976710656:=by
  have h:((c * b:Nat):Int)≤140737488355328:=by omega
  rw [Int.natCast_mul,Int.mul_comm] at h
  rw [h5];omega
 have hr:=run_make (P:=P) w T e i z hT.ty hi j .i64 .i64 l c opx opx t opx
 simp only [Int.toNat_natCast,h4,p] at hr
 refine A8j (by rw [ho];rfl) ?_
 unfold Oper.wp
 rw [show (execOp ac.eval o).run P w=.ok (.value (.slice (some ⟨w.heap.size,0,none⟩) l c)) (w.alloc (.cells (madeCells (f d).toArray (c * sz)) e)) by
  simp [execOp,ho,C3 v.has hx,C3 v.has hy,hr]]
 have r:(madeCells (f d).toArray (c * sz)).toList=(List.replicate l d).flatMap f++(List.replicate (c - l) d).flatMap f:=by
  rw [E8o hf,← List.flatMap_append,List.replicate_append_replicate];congr 2;omega
 have m:((List.replicate (c - l) d).flatMap f).length=(c - l) * sz:=by rw [G4 hf,List.length_replicate]
 have:=hk ⟨⟨some w.heap.size,c,(List.replicate (c - l) d).flatMap f⟩,by
  refine ⟨?_,by simpa using s,by simp only [maxLen];omega⟩
  simp only [List.length_replicate,m,← Nat.add_mul];congr 1;omega⟩ (w.alloc (.cells (madeCells (f d).toArray (c * sz)) e)) (by
  refine cC.turn (L0:=[]) (show cC X (L++([]++[])) Φ w by simpa using v.world) ⟨rfl,rfl,rfl,by simp,fun k u _=>heap_alloc_old w _ u⟩ ?_ olg
  intro e' he
  obtain rfl:e'=_:=by simpa [vo] using he
  refine ⟨?_,.inr (Nat.le_refl _)⟩
  rw [← r]
  simpa using heap_alloc_new w (.cells (madeCells (f d).toArray (c * sz)) e))
 exact (by simpa [va] using this:K (ac.put o.dst (.slice (some ⟨w.heap.size,0,none⟩) l c)) (w.alloc (.cells (madeCells (f d).toArray (c * sz)) e)))
end
theorem F1b (a b:Int):(if b<a then b else a)≤a∧(if b<a then b else a)≤b∧((if b<a then b else a)=a∨(if b<a then b else a)=b):=by split<;>omega
def C2 {α β:Type} (x:α) (k:α→β):β:=k x
theorem C9 {α β:Type} {x:α} {k:α→β} {R:β} (h:C2 x k=R):∃ r,x=r∧k r=R:=⟨x,rfl,h⟩
@[simp] theorem F3u {α β:Type} (x:α) (k:α→β):C2 x k=k x:=rfl
def F0k (x:Int):List Value:=[.int .u64 x]
def cH (k:Int) (z:Value):List (Int×Value)→Value
 | []=>z
 | (a,v)::r=>bif decide (k=a) then v else cH k z r
def S9 {α:Type} (k:Int):List (Int×α)→Bool
 | []=>false
 | (a,_)::r=>bif decide (k=a) then true else S9 k r
def lkB (k:Int) (z:Bool):List (Int×Bool)→Bool
 | []=>z
 | (a,v)::r=>bif decide (k=a) then v else lkB k z r
def B6:List (Int×Value)→Nat→List MapEntry
 | [],_=>[]
 | (a,v)::r,j=>⟨.int .i64 a,v,j⟩::B6 r (j+1)
theorem C5h (k:Int):∀ (l:List (Int×Value)) (j i:Nat),∃ r,Instr.findNow (.int .i64) (.int .i64 k) (B6 l j) i=some r ∧
  (r=none→S9 k l=false∧∀ z,cH k z l=z)∧∀ p,r=some p→S9 k l=true∧∀ z,cH k z l=p.2
 | [],j,i=>⟨none,rfl,fun _=>⟨rfl,fun _=>rfl⟩,fun _ h=>by cases h⟩
 | (a,v)::l,j,i=>by
  by_cases h:k=a
  ·refine ⟨some (i,v),?_,fun h=>(by cases h),fun p b=>?_⟩
   ·simp [B6,Instr.findNow,Instr.sameNow,h]
   ·cases b;simp [S9,cH,h]
  ·obtain ⟨r,f,g,d⟩:=C5h k l (j+1) (i+1)
   refine ⟨r,?_,fun e=>?_,fun p b=>?_⟩
   ·have c:(k == a)=false:=by simpa using h
    simp only [B6,Instr.findNow,Instr.sameNow,if_true,c];exact f
   ·simpa [S9,cH,h] using g e
   ·simpa [S9,cH,h] using d p b
section
variable {P:Program} {n:Nat} {X:Cx} {K:Act→World→Prop} {Q:Exit→Act→World→Prop} {E E':bX} {L L':Own} {Φ Φ':List Pers}
theorem F1e {α:Type} {c:α→List Value} {a:Addr} {xs:List α} {us:List Value} (j:Nat) (h:Φ[j]?=some (sl c (some a) xs)) (b:xs.flatMap c=us):S1 Φ (at_ a us) :=
 fun p d=>b▸(show A7i p a (xs.flatMap c) from d _ (List.mem_of_getElem? h))
theorem A3g {o:Oper} {T kt e:Nat} {m n:Operand} {b:Nat} {k:Int} {z:Value} {es:Array MapEntry} {f:Nat} (l:List (Int×Value)) (a:MapTy P T kt e (.int .i64)) (q:o.op=.lookup T m n false) (t:ev E m=some (.map (some b))) (s:ev E n=some (.int .i64 k))
  (i:Nat) (y:L[i]?=some (b,.map es f)) (he:es.toList=B6 l 0) (hz:(P.info? e).bind (·.zero)=some z):I6 P X o E L Φ (cH k z l):=.of_run fun ac w c u=>by
 have h:=C0d u y
 obtain ⟨x,h1,h2⟩:=Option.bind_eq_some_iff.1 hz
 have g:(zeroValue e).run P w=.ok z w:=by simp [zeroValue,A8p h1,h2]
 obtain ⟨r,d,hn,hs⟩:=C5h k l 0 0
 rw [← he] at d
 cases r with
 | none =>
  rw [(hn rfl).2]
  simp [execOp,q,C3 c t,C3 c s,Instr.lookup,run_underlying a.ty,D8h h,A2k a,A3e a d,g]
 | some p =>
  rw [(hs p rfl).2]
  obtain ⟨j,v⟩:=p
  simp [execOp,q,C3 c t,C3 c s,Instr.lookup,run_underlying a.ty,D8h h,A2k a,A3e a d]
theorem V8 {o:Oper} {T kt e:Nat} {m n:Operand} {b:Nat} {k:Int} {z:Value} {es:Array MapEntry} {f:Nat} (l:List (Int×Value)) (a:MapTy P T kt e (.int .i64)) (q:o.op=.lookup T m n true) (x:ev E m=some (.map (some b))) (u:ev E n=some (.int .i64 k))
  (i:Nat) (hi:L[i]?=some (b,.map es f)) (he:es.toList=B6 l 0) (hz:(P.info? e).bind (·.zero)=some z):I6 P X o E L Φ (.tuple #[cH k z l,.bool (S9 k l)]):=.of_run fun ac w c y=>by
 have h:=C0d y hi
 obtain ⟨a0,h1,h2⟩:=Option.bind_eq_some_iff.1 hz
 have g:(zeroValue e).run P w=.ok z w:=by simp [zeroValue,A8p h1,h2]
 obtain ⟨r,d,s,t⟩:=C5h k l 0 0
 rw [← he] at d
 cases r with
 | none =>
  rw [(s rfl).2,(s rfl).1]
  simp [execOp,q,C3 c x,C3 c u,Instr.lookup,run_underlying a.ty,D8h h,A2k a,A3e a d,g]
 | some p =>
  rw [(t p rfl).2,(t p rfl).1]
  obtain ⟨j,v⟩:=p
  simp [execOp,q,C3 c x,C3 c u,Instr.lookup,run_underlying a.ty,D8h h,A2k a,A3e a d]
theorem E2h (F:Value→Value→Value) (k:Int) (z1 z2:Value):∀ (l:List (Int×Value×Value)),cH k (F z1 z2) (l.map fun x=>(x.1,F x.2.1 x.2.2))=F (cH k z1 (l.map fun x=>(x.1,x.2.1))) (cH k z2 (l.map fun x=>(x.1,x.2.2)))
 | []=>rfl
 | (a,u,v)::l=>by
  simp only [List.map_cons,cH]
  cases decide (k=a) with
  | true=>rfl
  | false=>exact E2h F k z1 z2 l
theorem D2y (F:Value→Value→Value→Value) (k:Int) (z1 z2 z3:Value):∀ (l:List (Int×Value×Value×Value)),cH k (F z1 z2 z3) (l.map fun x=>(x.1,F x.2.1 x.2.2.1 x.2.2.2)) =
  F (cH k z1 (l.map fun x=>(x.1,x.2.1))) (cH k z2 (l.map fun x=>(x.1,x.2.2.1))) (cH k z3 (l.map fun x=>(x.1,x.2.2.2)))
 | []=>rfl
 | (a,u,v,w)::l=>by
  simp only [List.map_cons,cH]
  cases decide (k=a) with
  | true=>rfl
  | false=>exact D2y F k z1 z2 z3 l
theorem D7j (k:Int) (z:Bool):∀ (l:List (Int×Bool)),cH k (.bool z) (l.map fun x=>(x.1,.bool x.2))=.bool (lkB k z l)
 | []=>rfl
 | (a,v)::l=>by
  simp only [List.map_cons,cH,lkB]
  cases decide (k=a) with
  | true=>rfl
  | false=>exact D7j k z l
def C4 (P:Program) (a:Value) (args:List Value) (Φ0:List Pers) (v:Value):Prop :=
 ∃ (k:FuncId) (first cap:Array Value),a=.func (.func k) first cap∧J5 P k ((first++args.toArray++cap).toList) Φ0 v
theorem C4.of {k:FuncId} {first cap:Array Value} {args a:List Value} {Φ0 Φ1:List Pers} {v:Value} (h:J5 P k a Φ1 v) (f:(first++args.toArray++cap).toList=a) (b:A9 Φ0 Φ1):C4 P (.func (.func k) first cap) args Φ0 v :=
 ⟨k,first,cap,rfl,f▸⟨h.1,fun w p d c e=>h.2 w p (b p d) c e⟩⟩
theorem C4.cons {ρ:Type} (val:ρ→Value) {k a:Int} {z v:Value} {l:List (Int×Value)} {args:List Value} {Φ0:List Pers} {b c:ρ} (h:S9 k ((a,v)::l)=true) (d:k=a→C4 P v args Φ0 (val b)) (f:S9 k l=true→¬ k=a→C4 P (cH k z l) args Φ0 (val c)) :
  C4 P (cH k z ((a,v)::l)) args Φ0 (val (bif decide (k=a) then b else c)):=by
 by_cases e:k=a
 ·simpa [cH,e] using d e
 ·simpa [cH,e] using f (by simpa [S9,e] using h) e
theorem C4.nil {k:Int} {z v:Value} {args:List Value} {Φ0:List Pers} (h:S9 k ([]:List (Int×Value))=true):C4 P z args Φ0 v:=by cases h
theorem R4 {o:Oper} {c:Call} {e:Operand} {a:Value} {f:List Value} {Φ0:List Pers} {v:Value}
  (d:C4 P a f Φ0 v) (i:o.op=.call c) (j:c.callee=.value e) (g:ev E e=some a) (b:c.args.toList.mapM (ev E)=some f) (hΦ:A9 Φ Φ0):Det P X o E L Φ v:=by
 obtain ⟨k,first,cap,rfl,h⟩:=d
 exact A8n h i j g b rfl hΦ
def C7f (P:Program) (a:Value) (args:List Value) (Φ0:List Pers) {ρ:Type} (pv:Value) (R:Option ρ) (val:ρ→Value):Prop :=
 ∃ (k:FuncId) (first cap:Array Value),a=.func (.func k) first cap∧C3c P k ((first++args.toArray++cap).toList) [] Φ0 pv R val
theorem C7f.of {k:FuncId} {first cap:Array Value} {args a:List Value} {Φ0 Φ1:List Pers} {ρ:Type} {pv:Value} {R:Option ρ} {val:ρ→Value} (h:C3c P k a [] Φ1 pv R val) (f:(first++args.toArray++cap).toList=a) (b:A9 Φ0 Φ1):C7f P (.func (.func k) first cap) args Φ0 pv R val :=
 ⟨k,first,cap,rfl,f▸⟨h.1,fun w p d c e=>h.2 w p (b p d) c e⟩⟩
theorem C7f.cons {ρ:Type} {pv:Value} {val:ρ→Value} {k a:Int} {z v:Value} {l:List (Int×Value)} {args:List Value} {Φ0:List Pers} {b c:Option ρ} (h:S9 k ((a,v)::l)=true) (d:k=a→C7f P v args Φ0 pv b val) (f:S9 k l=true→¬ k=a→C7f P (cH k z l) args Φ0 pv c val) :
  C7f P (cH k z ((a,v)::l)) args Φ0 pv (bif decide (k=a) then b else c) val:=by
 by_cases e:k=a
 ·simpa [cH,e] using d e
 ·simpa [cH,e] using f (by simpa [S9,e] using h) e
theorem C7f.nil {k:Int} {z:Value} {args:List Value} {Φ0:List Pers} {ρ:Type} {pv:Value} {R:Option ρ} {val:ρ→Value} (h:S9 k ([]:List (Int×Value))=true):C7f P z args Φ0 pv R val:=by cases h
theorem oiu {p:Prop} (h:p:=by assumption):p:=h
theorem E4p {β:Type} {c:β→List Value} {n:Nat}:S1 Φ (U6 c (List.replicate n (⟨none,0,0⟩:Slc)) (List.replicate n ([]:List β))):=fun p d i r xs a b=>by
 rw [List.getElem?_replicate] at a b
 split at a
 ·cases a;rw [if_pos oiu] at b;cases b;exact rfl
 ·cases a
theorem I4.rep {β:Type} (n:Nat):I4 (List.replicate n (⟨Option.none,0,0⟩:Slc)) (List.replicate n ([]:List β)):=⟨by simp,fun i r xs a b=>by
 rw [List.getElem?_replicate] at a b
 split at a
 ·cases a;rw [if_pos oiu] at b;cases b;exact ⟨rfl,Nat.le_refl _,by simp⟩
 ·cases a⟩
end
def C5t (P:Program) (l:Nat) (v a:Value) (L:Own) (Φ:List Pers) (post:Bool→Own→List Pers→Prop):Prop :=
 ∀ (w:World) (h:Hp),(∀ q ∈ Φ,q.p h)→h.sub w→A2i L h w →
  YieldAt Fence.wide 0 P l #[v,a] w fun e w'=>∃ b L' Φ',e=.returned (.bool b)∧post b L' Φ'∧cC (cx w h (L.map Prod.fst)) L' Φ' w'
def D0e (P:Program) (gf:FuncId) (a:List Value) (Φ0:List Pers) {β:Type} (enc enc2:β→Value) (xs:List β):Prop :=
 HasBody P gf∧∀ (l:Nat) (w:World) (h:Hp) (I:List β→Own→List Pers→Prop) (Ix:Own→List Pers→Prop) (L:Own) (Φ:List Pers),I xs L Φ→(∀ q ∈ Φ0,q.p h)→(∀ q ∈ Φ,q.p h)→h.sub w→A2i L h w →
  (∀ x rest L Φ,I (x::rest) L Φ→C5t P l (enc x) (enc2 x) L Φ fun b L' Φ'=>if b then I rest L' Φ' else Ix L' Φ') →
  Calls P gf (#[.func (.yield l) #[] #[]]++a.toArray) w fun e w'=>(∃ v,e=.returned v)∧∃ L' Φ',(I [] L' Φ'∨Ix L' Φ')∧cC (cx w h (L.map Prod.fst)) L' Φ' w'
section
variable {P:Program} {n:Nat} {X:Cx} {K:Act→World→Prop} {Q:Exit→Act→World→Prop} {E E':bX} {L L':Own} {Φ Φ':List Pers}
theorem E0a {gf:FuncId} {g:Func} {c:Code} {a:List Value} {Φ0:List Pers} {β:Type} {enc enc2:β→Value} {xs:List β}
  (o : P.funcs[gf]? = some g) (k : g.body = some c) (m : (g.name == "runtime.NumGoroutine") = false) (r : g.ntmps = n) (j : Nat.ble (a.length + 1) n = true) (E0 : Nat → bX) (hE : ∀ l, S6 ((List.range (a.length + 1)).zip (.func (.yield l) #[] #[] :: a)) (E0 l))
  (h:∀ (X:Cx) (l:Nat) (I:List β→Own→List Pers→Prop) (Ix:Own→List Pers→Prop) (L:Own) (Φ:List Pers),X.M=L.map Prod.fst→X.rho=none→X.D=[]→I xs L Φ →
   (∀ x rest L Φ,I (x::rest) L Φ→C5t P l (enc x) (enc2 x) L Φ fun b L' Φ'=>if b then I rest L' Φ' else Ix L' Φ')→J P n X c (D7h P X g fun L' Φ'=>I [] L' Φ'∨Ix L' Φ') (E0 l) (L++[]) (Φ0++Φ)):D0e P gf a Φ0 enc enc2 xs:=by
 refine ⟨⟨by simp [o,k,m]⟩,fun l w p I Ix L Φ hI hΦ0 hΦ hs ho hy=>?_⟩
 have f:(#[.func (.yield l) #[] #[]]++a.toArray:Array Value)=(Value.func (.yield l) #[] #[]::a).toArray:=by simp
 rw [f]
 simp only [List.append_nil] at h
 refine (callsIn_wide (n:=0)).1 (callsIn_of_wp_marks (F:=Fence.wide) o k trivial (h (cx w p (L.map Prod.fst)) l I Ix L Φ rfl rfl rfl hI hy _ w ⟨?_,rfl,?_,p,⟨?_,hs,Hp.le_refl p,fun b k=>.inl k,ho,fun e u=>.inl (List.mem_map_of_mem u),KeptBut.refl _ w,fun d t=>(by cases t)⟩⟩))
 ·have s:a.length+1≤n:=Nat.le_of_ble_eq_true j
  simp [r];omega
 ·rw [r]
  exact C0i (args:=Value.func (.yield l) #[] #[]::a) j (hE l)
 ·intro q i
  rcases List.mem_append.1 i with i | i
  ·exact hΦ0 q i
  ·exact hΦ q i
theorem E0r {o:Oper} {c:Call} {fv:Operand} {l:Nat} {v z:Value} {L0 L2:Own} {Φ0:List Pers} {post:Bool→Own→List Pers→Prop} (hy:C5t P l v z L0 Φ0 post)
  (y:o.op=.call c) (r:c.callee=.value fv) (hf:ev E fv=some (.func (.yield l) #[] #[])) (j:c.args.toList.mapM (ev E)=some [v,z]) (hΦ:A9 Φ Φ0) (s:L.Perm (L0++L2)) :
  Tri P n X o E L Φ {σ:Bool×Own×List Pers // post σ.1 σ.2.1 σ.2.2} (fun σ=>.bool σ.1.1) (fun σ=>σ.1.2.1++L2) (fun σ=>σ.1.2.2++Φ):=by
 intro a w K Q t hk
 obtain ⟨p,m⟩:=t.world
 have q:A2i (L0++L2) p w:=⟨fun e he=>m.own.1 e (s.symm.subset he),(s.map Prod.fst).nodup_iff.1 m.own.2⟩
 obtain ⟨x,i,d,g,u,f⟩:=hy w p (hΦ p m.facts) m.sub (q.sub (List.sublist_append_left _ _))
 have hr:(execOp a.eval o).run P w=.ok (.round l x i d g) w:=by
  simp [execOp,y,resolve,r,C3 t.has hf,Deferred.ofValue,A9z t.has j,invoke,u]
 refine ⟨fun _ _=>trivial,?_⟩
 rw [Oper.semAt_eq _ _ _ (fun c r=>by rw [y] at r;cases r),hr]
 refine ⟨A8f,?_⟩
 have hR:RoundIn (FW X.rho) 0 P l x i d g w _:=f
 refine hR.mono fun e w' hx=>?_
 obtain ⟨b,L',Φ',rfl,k,hw⟩:=hx
 exact hk ⟨(b,L',Φ'),k⟩ w' (cC.call m s hw)
theorem E7v {g:Operand} {p p2:Nat} {ps:Array Tmp} {assign body:Code} {gf:FuncId} {lb:List Value} {Φ0:List Pers} {β:Type} {enc enc2:β→Value} {xs:List β}
  (aj:X.rho=none) (hg:ev E g=some (.func (.func gf) #[] lb.toArray)) (ao:D0e P gf lb Φ0 enc enc2 xs) (hΦ0:A9 Φ Φ0) (b2:ps=#[p,p2]) (b4:X6 n (some p)=true) (ar:X6 n (some p2)=true)
  {σ:Type} (I:List β→σ→Prop) (Jx:Code→σ→Prop) (Lk:σ→Own) (Φk:σ→List Pers) (s0:σ) (h0:I xs s0) (hL:(Lk s0).Sublist L) (hΦ:A9 Φ (Φk s0))
  (a6:∀ x rest s,I (x::rest) s→∀ (Y Y':Cx) (K:Act→World→Prop),Y.rho.isSome=true →
   (∀ E L Φ,J P n Y' body (RP Y' I Jx Lk Φk rest) E L Φ→JQ n Y K E L Φ)→J P n Y assign (Exit.then K (fun _ _ _=>False)) (bX.put (bX.put E (some p) (enc x)) (some p2) (enc2 x)) (Lk s) (Φk s))
  (a8:∀ d s,d ∉ X.D.map Prod.fst→I [] s→JQ n (X.wd ((d,.deferred (some []))::X.D)) (Q .normal) E (Lk s) (Φk s))
  (ai:∀ d c s,d ∉ X.D.map Prod.fst→Jx c s→J P n (X.wd ((d,.deferred (some []))::X.D)) c Q E (Lk s) (Φk s)):J P n X (.rangeFunc g ps assign body) Q E L Φ:=by
 intro a w u
 subst b2
 rw [aj]
 refine wpIn_rangeFunc ?_
 intro fn _
 obtain ⟨f,hrec⟩:∃ f:LoopState→Option Code→Loop,f=fun y z=>{state:=y,pending:=z,fn,tmps:=a.tmps,params:=#[p,p2],assign,body,defers:=w.heap.size}:=⟨_,rfl⟩
 have he:=run_enterLoop_outer (P:=P) (w:=w) fn a.tmps #[p,p2] assign body
 rw [show ({state:=.ready,pending:=none,fn:=fn,tmps:=a.tmps,params:=#[p,p2],assign:=assign,body:=body,defers:=w.heap.size}:Loop)=f .ready none by rw [hrec]] at he
 obtain ⟨w1,hw1⟩:∃ w1,(w.alloc (.deferred (some []))).alloc (.loop (f .ready none))=w1:=⟨_,rfl⟩
 rw [hw1] at he
 refine ⟨w.heap.size+1,[C1t w.heap.size],w1,{target:=.fn (.func gf) lb.toArray,args:=#[.func (.yield (w.heap.size+1)) #[] #[]]},w1,gf,
  #[.func (.yield (w.heap.size+1)) #[] #[]]++lb.toArray,w1,he,?_,fun _ _=>trivial,?_,A8f,?_⟩
 ·simp only [resolve,C3 u.has hg]
  simp [go_sem]
 ·simp [invoke,A1y ao.1]
 ·-- the caller's state,the two blocks laid
  have ad:cC X ((w.heap.size+1,.loop (f .ready none))::(w.heap.size,.deferred (some []))::Lk s0) Φ w1:=by
   have h1:=(u.world.sub hL).alloc (.deferred (some []))
   have h2:=h1.alloc (.loop (f .ready none))
   rw [World.size_alloc,hw1] at h2
   exact h2
  have aw:w.heap.size ∉ X.D.map Prod.fst:=fun hm=>by
   obtain ⟨e,ac,hE⟩:=List.mem_map.1 hm
   obtain ⟨q,hq⟩:=u.world
   have:=(Array.getElem?_eq_some_iff.1 (hq.res e ac).1).1
   omega
  obtain ⟨q,hq⟩:=ad
  have bd:w.heap.size+1<w1.heap.size:=(Array.getElem?_eq_some_iff.1 (hq.own.1 _ (List.mem_cons_self ..)).1).1
  let It:List β→Own→List Pers→Prop:=fun rem L Φ=>∃ s,I rem s∧L=(w.heap.size+1,.loop (f .ready none))::(w.heap.size,.deferred (some []))::Lk s∧Φ=Φk s
  let Itx:Own→List Pers→Prop:=fun L Φ=>∃ c s,Jx c s∧L=(w.heap.size+1,.loop (f .done (some c)))::(w.heap.size,.deferred (some []))::Lk s∧Φ=Φk s
  have ah:=ao.2 (w.heap.size+1) w1 q It Itx _ (Φk s0) ⟨s0,h0,rfl,rfl⟩ (hΦ0 q hq.facts) (hΦ q hq.facts) hq.sub hq.own ?_
  ·refine B5v (ah.mono fun e w' hx=>?_)
   obtain ⟨⟨v,rfl⟩,L',Φ',hI,az⟩:=hx
   have au:=cC.call (L0:=(w.heap.size+1,.loop (f .ready none))::(w.heap.size,.deferred (some []))::Lk s0) (L2:=[]) hq oom az
   rw [List.append_nil] at au
   have r:∀ (y:LoopState) (z:Option Code) (s:σ),y≠.busy→L'=(w.heap.size+1,.loop (f y z))::(w.heap.size,.deferred (some []))::Lk s→Φ'=Φk s →
     (Instr.endLoop (w.heap.size+1)).run P w'=.ok z (w'.putObj (w.heap.size+1) (.loop {f y z with state:=.exhausted})) ∧
     St n (X.wd ((w.heap.size,.deferred (some []))::X.D)) E (Lk s) (Φk s) {a with defers:=[C1t w.heap.size]++a.defers} (w'.putObj (w.heap.size+1) (.loop {f y z with state:=.exhausted})):=fun y z s ad l hΦ'=>by
    subst l hΦ'
    obtain ⟨q2,hq2⟩:=au
    have hl:=(hq2.own.1 _ (List.mem_cons_self ..)).1
    simp only at hl
    have i:=run_endLoop (P:=P) hl (by rw [hrec];exact ad)
    rw [hrec] at i ⊢
    refine ⟨i,⟨u.size,?_,u.has,?_⟩⟩
    ·show [C1t w.heap.size]++a.defers=_
     rw [u.defers]
     unfold Cx.marks Cx.wd
     simp only [aj];rfl
    ·have h3:cC X ((w.heap.size,.deferred (some []))::Lk s) (Φk s++Φ) (w'.putObj (w.heap.size+1) (.loop {f y z with state:=.exhausted})):=by
      have h4:=cC.reserve (X:=X) ⟨q2,hq2⟩
      have a4:=hq2.own.2
      have h5:=cC.take (X:=X) (d:=(w.heap.size+1,.loop (f y z))) (ds:=X.D) ?_ (.loop {f y z with state:=.exhausted}) h4
      ·exact h5
      ·intro hm
       obtain ⟨e,ac,hE⟩:=List.mem_map.1 hm
       obtain ⟨q3,hq3⟩:=u.world
       have:=(Array.getElem?_eq_some_iff.1 (hq3.res e ac).1).1
       simp only at hE;omega
     rw [hrec] at h3
     exact h3.reserve.foll fun p hp q hq=>hp q (List.mem_append_left _ hq)
   rcases hI with ⟨s,hI,l,hΦ'⟩ | ⟨c,s,hI,l,hΦ'⟩
   ·obtain ⟨i,aa⟩:=r .ready none s oom l hΦ'
    exact ⟨none,_,i,a8 _ s aw hI _ _ aa⟩
   ·obtain ⟨i,aa⟩:=r .done (some c) s oom l hΦ'
    have h6:=ai _ c s aw hI _ _ aa
    have:(X.wd ((w.heap.size,.deferred (some []))::X.D)).rho=none:=aj
    rw [this] at h6
    exact ⟨some c,_,i,h6⟩
  ·-- one round
   rintro x rest L0 Φ0 ⟨s,hIs,rfl,rfl⟩ wr hr hfr hsr hor
   have hl:=(hor.1 _ (List.mem_cons_self ..)).1
   simp only at hl
   have hy:=run_yield (P:=P) (args:=#[enc x,enc2 x]) hl (by rw [hrec];rfl)
   rw [hrec] at hy
   refine ⟨_,_,assign,body,hy,roundIn_of_wpIn trivial ?_⟩
   have b5:w.heap.size+1≠w.heap.size:=by omega
   let M0:List Nat:=(w.heap.size+1)::w.heap.size::(Lk s).map Prod.fst
   let Y:Cx:=⟨wr,hr,M0,some (w.heap.size+1),[(w.heap.size+1,.loop (f .ready none)),(w.heap.size,.deferred (some []))]⟩
   let Y':Cx:=⟨wr,hr,M0,some (w.heap.size+1),[(w.heap.size+1,.loop {f .ready none with state:=.busy}),(w.heap.size,.deferred (some []))]⟩
   have hb:=a6 x rest s hIs Y Y' (fun a₁ w₁=>∃ w₂,(Instr.beginRound (w.heap.size+1)).run P w₁=.ok () w₂∧body.wpIn (Fence.wide.inRound (w.heap.size+1)) 0 P
    (roundPost P (w.heap.size+1) fun e w'=>∃ b L' Φ',e=.returned (.bool b)∧(if b then It rest L' Φ' else Itx L' Φ')∧cC (cx wr hr M0) L' Φ' w') a₁ w₂) rfl ?_
   ·refine hb _ wr ⟨?_,rfl,?_,hr,⟨hfr,hsr,Hp.le_refl hr,fun b hb=>.inl hb,hor.sub ((List.sublist_cons_self _ _).trans (List.sublist_cons_self _ _)),fun e he=>.inl ?_,KeptBut.refl _ _,fun d hd=>?_⟩⟩
    ·have:a.tmps.size=n:=u.size
     simp [this]
    ·have h1:=u.has.put (d:=p) (by rw [u.size];simpa [X6,Nat.blt_eq] using b4) (enc x)
     have:=h1.put (d:=p2) (by rw [Act.put_size,u.size];simpa [X6,Nat.blt_eq] using ar) (enc2 x)
     exact fun t v e=>by simpa [Act.put] using this t v e
    ·exact List.mem_cons_of_mem _ (List.mem_cons_of_mem _ (List.mem_map_of_mem he))
    ·have a4:=hor.2
     simp only [List.map_cons,List.nodup_cons,List.mem_cons,not_or] at a4
     simp only [Y,List.mem_cons,List.not_mem_nil,or_false] at hd
     rcases hd with rfl | rfl
     ·exact ⟨hl,(hor.1 _ (List.mem_cons_self ..)).2,fun e he hE=>a4.1.2 (by simp only at hE;rw [← hE];exact List.mem_map_of_mem he),.inr (by simp [Y,M0])⟩
     ·have h1:=hor.1 _ (List.mem_cons_of_mem _ (List.mem_cons_self ..))
      exact ⟨h1.1,h1.2,fun e he hE=>a4.2.1 (by simp only at hE;rw [← hE];exact List.mem_map_of_mem he),.inr (by simp [Y,M0])⟩
   ·-- the record turns to busy;the body;the record turns back
    intro E1 L1 Φ1 hJ a1 w2 hs1
    obtain ⟨q1,hq1⟩:=hs1.world
    have av:=(hq1.res (w.heap.size+1,.loop (f .ready none)) (by simp [Y])).1
    simp only at av
    refine ⟨_,run_beginRound av (by rw [hrec]),?_⟩
    have am:cC Y' L1 Φ1 (w2.putObj (w.heap.size+1) (.loop {f .ready none with state:=.busy})):=by
     have:=cC.reput (X:=Y) (d:=w.heap.size+1) (o:=.loop (f .ready none)) (o':=.loop {f .ready none with state:=.busy}) (ds:=[(w.heap.size,.deferred (some []))]) oom hs1.world
     exact this
    have af:=hJ a1 _ ⟨hs1.size,hs1.defers,hs1.has,am⟩
    refine Code.wpIn_mono (fun e a2 w3 hp=>?_) af
    have ae:∀ (j:Option Code) (k:σ),cC Y' (Lk k) (Φk k) w3 →
      (Instr.endRound (w.heap.size+1) j).run P w3=.ok (.bool j.isNone) (w3.putObj (w.heap.size+1) (.loop (f (if j.isNone then .ready else .done) j))) ∧
      cC (cx wr hr M0) ((w.heap.size+1,.loop (f (if j.isNone then .ready else .done) j))::(w.heap.size,.deferred (some []))::Lk k) (Φk k) (w3.putObj (w.heap.size+1) (.loop (f (if j.isNone then .ready else .done) j))):=fun j k h3=>by
     obtain ⟨q3,hq3⟩:=h3
     have an:=(hq3.res (w.heap.size+1,.loop {f .ready none with state:=.busy}) (by simp [Y'])).1
     simp only at an
     have i:=run_endRound (P:=P) j an
     refine ⟨by rw [hrec] at i ⊢;exact i,?_⟩
     have h4:=cC.reput (X:=Y') (d:=w.heap.size+1) (o:=.loop {f .ready none with state:=.busy}) (o':=.loop (f (if j.isNone then .ready else .done) j)) (ds:=[(w.heap.size,.deferred (some []))]) oom ⟨q3,hq3⟩
     exact cC.unres oom h4
    cases e with
    | normal =>
     obtain ⟨k,m,h3⟩:=hp
     obtain ⟨i,h4⟩:=ae none k h3
     exact ⟨_,_,i,true,_,_,rfl,⟨k,m,rfl,rfl⟩,h4⟩
    | ret =>
     obtain ⟨k,m,h3⟩:=hp
     obtain ⟨i,h4⟩:=ae (some .ret) k h3
     exact ⟨_,_,i,false,_,_,rfl,⟨.ret,k,m,rfl,rfl⟩,h4⟩
    | exit id =>
     obtain ⟨k,m,h3⟩:=hp
     obtain ⟨i,h4⟩:=ae (some (.exit id)) k h3
     exact ⟨_,_,i,false,_,_,rfl,⟨.exit id,k,m,rfl,rfl⟩,h4⟩
    | goto t=>exact hp.elim
    | panic c=>exact hp.elim
    | outgrown=>exact hp.elim
end
end Go.Fen
namespace Go.Fen
open Go Go.RowKit Go.ChangeShapes
section
variable {P:Program}
def Cod (P:Program) (T:TypeId) (α:Type) (c:α→List Value) (D:{H:Type}→DataW H→α→Prop) (p:Hp→α→Prop):Prop :=
 ∀ {H:Type} {enc:TypeId×Value→H} {w:World} {f:Nat} {g:Nat→Bool} {e:Bool} {d:Nat} {cs:List Value} {x:DataW H×List MemPlace},
  DataW.trod enc P w f g e d T cs=some x→∃ a:α,cs=c a∧D x.1 a∧p (fun b=>w.heap[b]?) a
def B6x {H:Type} (d:DataW H) (n:Int):Prop:=d=.lit (.int .i64 n)
def dU8 {H:Type} (d:DataW H) (n:UInt8):Prop:=d=.lit (.int .u8 (n.toNat:Int))
def B2x (n:Int):Prop:=-9223372036854775808≤n∧n≤9223372036854775807
theorem F0g {k:IntKind} {n:Int} (h:(Lit.int k n).wf=true):k.min≤n∧n≤k.max:=by
 simpa only [Lit.wf,decide_eq_true_eq,Bool.and_eq_true] using h
theorem A2u {T:TypeId} (b:P.underlying T=some (.int .i64)):Cod P T Int J8 B6x (fun _=>B2x):=fun h=>by
 obtain ⟨n,rfl,rfl,a⟩:=DataW.trod_int b h
 exact ⟨n,rfl,rfl,F0g a⟩
theorem F1n {T:TypeId} (c:P.underlying T=some (.int .u8)):Cod P T UInt8 cG dU8 (fun _ _=>True):=fun h=>by
 obtain ⟨n,rfl,rfl,b⟩:=DataW.trod_int c h
 have a:0≤n∧n≤255:=F0g b
 exact ⟨by8 n,by simp [cG,C0k a],by simp [dU8,C0k a],trivial⟩
theorem B9r {α β:Type} {f:α→Option β} {l:List α} {r:List β} (h:l.mapM f=some r) (i:Nat) (a:α) (c:l[i]?=some a):∃ b,r[i]?=some b∧f a=some b:=Lib.mapM_at h i a c
theorem S0 {cs:List Value} {o n m:Nat} {u rest:List Value} (h:(cs.drop o).take n=u) (hr:cs.drop m=rest) (a:o+n=m):cs.drop o=u++rest:=by
 subst h hr a;rw [← List.drop_drop,List.take_append_drop]
theorem B0j {H:Type} {enc:TypeId×Value→H} {w:World} {c:Nat} {e:Nat→Bool} {b:Bool} {a:Nat} {T:TypeId} {cs:List Value} {x:DataW H×List MemPlace} {d:Array Field}
  (l:P.underlying T=some (.struct d)) (h:DataW.trod enc P w c e b a T cs=some x) :
  cs.length=P.cellsOf T∧∃ (n:Nat) (ys:List (DataW H×List MemPlace)),a=n+1∧x.1=.agg (ys.map (·.1))∧ys.length=d.size∧∀ (i:Nat) f,d[i]?=some f→∃ y,ys[i]?=some y∧DataW.trod enc P w c e b n f.type ((cs.drop f.offset).take (P.cellsOf f.type))=some y:=by
 cases a with
 | zero=>simp [DataW.trod] at h
 | succ n =>
  unfold DataW.trod at h
  simp only [l] at h
  split at h
  ·rename_i k
   obtain ⟨ys,g,rfl⟩:=Option.map_eq_some_iff.1 h
   refine ⟨k,n,ys,rfl,rfl,by simpa using Lib.mapM_length g,fun i f j=>?_⟩
   exact B9r g i f (by simpa using j)
  ·cases h
theorem C8n {H:Type} {enc:TypeId×Value→H} {w:World} {c:Nat} {d:Nat→Bool} {b:Bool} {a:Nat} {T e:TypeId} {k:Nat} {cs:List Value} {x:DataW H×List MemPlace}
  (l:P.underlying T=some (.array k e)) (h:DataW.trod enc P w c d b a T cs=some x) :
  cs.length=P.cellsOf T∧∃ (n:Nat) (ys:List (DataW H×List MemPlace)),a=n+1∧x.1=.agg (ys.map (·.1))∧ys.length=k∧∀ (i:Nat),i<k→∃ y,ys[i]?=some y∧DataW.trod enc P w c d b n e ((cs.drop (i * P.cellsOf e)).take (P.cellsOf e))=some y:=by
 cases a with
 | zero=>simp [DataW.trod] at h
 | succ n =>
  unfold DataW.trod at h
  simp only [l] at h
  split at h
  ·rename_i g
   obtain ⟨ys,f,rfl⟩:=Option.map_eq_some_iff.1 h
   refine ⟨g,n,ys,rfl,rfl,by simpa using Lib.mapM_length f,fun i j=>?_⟩
   exact B9r f i i (by simp [j])
  ·cases h
abbrev C6o (w:World):Hp:=fun b=>w.heap[b]?
theorem E4h {w:World} {c:Nat} {a:Addr} {n:Nat} {us:List Value} (h:w.cells? c a n=some us):us.length=n∧∀ j,j<n→w.cell? (a.add j)=us[j]?:=by
 unfold World.cells? at h
 split at h
 ·refine ⟨by simpa using Lib.mapM_length h,fun j f=>?_⟩
  obtain ⟨b,d,e⟩:=B9r h j j (by simp [f])
  rw [e,d]
 ·cases h
theorem D2n {w:World} {a:Addr} {v:Value} (h:w.cell? a=some v):a.spot=none∧∃ c T b,w.heap[a.block]?=some (.cells c T b)∧c[a.off]?=some v:=by
 unfold World.cell? at h
 cases hs:a.spot with
 | none =>
  rw [hs] at h
  split at h<;>simp_all
 | some s=>rw [hs] at h;split at h<;>simp_all
theorem D2q (a:Addr) (n:Nat):(a.add n).block=a.block:=by unfold Addr.add;split<;>rfl
theorem E9g (a:Addr) (n:Nat):(a.add n).off=a.off+n:=by unfold Addr.add;split<;>simp_all
theorem E6k (a:Addr) (n m:Nat):(a.add n).add m=a.add (n+m):=by
 unfold Addr.add
 split<;>split<;>split<;>simp_all [Nat.add_assoc]
theorem E2l {T e sz:TypeId} {α:Type} {c:α→List Value} {D:{H:Type}→DataW H→α→Prop} {p:Hp→α→Prop} (hc:Cod P e α c D p) (a7:∀ x,(c x).length=sz) (a4:P.cellsOf e=sz) (h0:0<sz) (ht:P.underlying T=some (.slice e))
  {H:Type} {enc:TypeId×Value→H} {w:World} {b:Nat} {sp:Nat→Bool} {r:Bool} {o:Nat} {cs:List Value} {x:DataW H×List MemPlace} (h:DataW.trod enc P w b sp r o T cs=some x) :
  ∃ (q:Option Addr) (k:Nat) (xs:List α),cs=[.slice q xs.length k]∧xs.length≤k∧k≤9223372036854775807∧(∀ a ∈ xs,p (C6o w) a)∧(sl c q xs).p (C6o w) ∧
   ((q=none∧xs=[]∧k=0)∨∃ (es rest:List (DataW H)),x.1=.slice es rest∧es.length=xs.length∧∀ (i:Nat) (d:DataW H) (a:α),es[i]?=some d→xs[i]?=some a→D d a):=by
 cases o with
 | zero=>simp [DataW.trod] at h
 | succ n =>
  unfold DataW.trod at h
  simp only [ht] at h
  split at h
  all_goals try (simp_all;done)
  ·rename_i l
   simp only [Option.some.injEq,TypeDesc.slice.injEq] at l
   exact ⟨none,0,[],rfl,Nat.le_refl _,Nat.zero_le _,by simp,rfl,.inl ⟨rfl,rfl,rfl⟩⟩
  ·rename_i e' a len cap l
   simp only [Option.some.injEq,TypeDesc.slice.injEq] at l
   subst l
   split at h
   ·rename_i hb
    obtain ⟨b5,aj,au⟩:=hb
    obtain ⟨es,hm,h⟩:=Option.bind_eq_some_iff.1 h
    obtain ⟨rest,_,rfl⟩:=Option.map_eq_some_iff.1 h
    have ab:es.length=len:=by simpa using Lib.mapM_length hm
    have am:∀ i,i<len→∃ y,es[i]?=some y∧∃ us,w.cells? b (a.add (i * P.cellsOf e)) (P.cellsOf e)=some us∧DataW.trod enc P w b sp r n e us=some y:=fun i hi=>by
     obtain ⟨y,hy,aq⟩:=B9r hm i i (by simp [hi])
     obtain ⟨us,hu,z⟩:=Option.bind_eq_some_iff.1 aq
     exact ⟨y,hy,us,hu,z⟩
    have ai:∀ m,m≤len→∃ xs:List α,xs.length=m∧(∀ a ∈ xs,p (C6o w) a)∧∀ i,i<m→∃ y v,es[i]?=some y∧xs[i]?=some v∧D y.1 v∧w.cells? b (a.add (i * P.cellsOf e)) (P.cellsOf e)=some (c v):=by
     intro m
     induction m with
     | zero=>exact fun _=>⟨[],rfl,by simp,fun i hi=>by omega⟩
     | succ m ih =>
      intro b1
      obtain ⟨xs,g,t,hx⟩:=ih opx
      obtain ⟨y,hy,us,hu,z⟩:=am m opx
      obtain ⟨v,rfl,hd,hp⟩:=hc z
      refine ⟨xs++[v],by simp [g],fun a ha=>?_,fun i hi=>?_⟩
      ·rcases List.mem_append.1 ha with ha | ha
       ·exact t a ha
       ·rw [List.mem_singleton.1 ha];exact hp
      ·by_cases him:i<m
       ·obtain ⟨y',v',h1,h2,h3,h4⟩:=hx i him
        exact ⟨y',v',h1,by rw [List.getElem?_append_left opx];exact h2,h3,h4⟩
       ·obtain rfl:i=m:=by omega
        exact ⟨y,v,hy,by rw [List.getElem?_append_right opx,g];simp,hd,hu⟩
    obtain ⟨xs,g,t,hx⟩:=ai len (Nat.le_refl _)
    subst g
    refine ⟨some a,cap,xs,rfl,aj,by simpa [maxLen] using au,t,?_,.inr ⟨es.map (·.1),rest.map (·.1),rfl,by simpa using ab,fun i d v hd hv=>?_⟩⟩
    ·show A7i (C6o w) a (xs.flatMap c)
     cases hxs:xs with
     | nil=>exact .inl rfl
     | cons x0 xr =>
      rw [← hxs]
      have s:0<xs.length:=by rw [hxs];simp
      have f:∀ i j,i<xs.length→j<sz→w.cell? (a.add (i * sz+j))=(xs.flatMap c)[i * sz+j]?:=by
       intro i j hi hj
       obtain ⟨y,v,_,h2,_,h4⟩:=hx i hi
       have:=(E4h h4).2 j (by rw [a4];exact hj)
       rw [a4] at this
       rw [C5k a7 v hi hj,show xs.getD i v=v by rw [List.getD_eq_getElem?_getD,h2];rfl,← this,E6k]
      have aa:(xs.flatMap c).length=xs.length * sz:=G4 a7 xs
      have a8:=f 0 0 s h0
      obtain ⟨v0,hv0⟩:∃ v0,(xs.flatMap c)[0 * sz+0]?=some v0:=by
       rw [List.getElem?_eq_getElem (show 0 * sz+0<(xs.flatMap c).length by rw [aa,Nat.zero_mul];exact Nat.mul_pos s h0)];exact ⟨_,rfl⟩
      rw [hv0] at a8
      obtain ⟨hs,cc,TT,fr,hh,_⟩:=D2n a8
      have a3:w.heap[a.block]?=some (.cells cc TT fr):=by simpa [D2q] using hh
      refine .inr ⟨by simpa [Addr.add] using hs,cc,TT,fr,a3,fun j v hj=>?_⟩
      have a6:=(List.getElem?_eq_some_iff.1 hj).1
      rw [aa] at a6
      have e1:j / sz * sz+j % sz=j:=by rw [Nat.mul_comm];exact Nat.div_add_mod j sz
      have h1:=f (j / sz) (j % sz) (by rw [Nat.div_lt_iff_lt_mul h0];exact a6) (Nat.mod_lt _ h0)
      rw [e1,hj] at h1
      obtain ⟨_,a5,TT',an,av,ah⟩:=D2n h1
      have u:w.heap[a.block]?=some (.cells a5 TT' an):=by simpa [D2q] using av
      have:a5=cc:=by
       rw [a3] at u;simp at u;exact u.1.symm
      rw [← this];simpa [E9g] using ah
    ·obtain ⟨y,v',h1,h2,h3,_⟩:=hx i (List.getElem?_eq_some_iff.1 hv).1
     rw [hv] at h2
     obtain rfl:v=v':=Option.some.inj h2
     rw [List.getElem?_map,h1] at hd
     obtain rfl:y.1=d:=Option.some.inj hd
     exact h3
   ·cases h
theorem D6x {T e sz k:Nat} {α:Type} {c:α→List Value} {D:{H:Type}→DataW H→α→Prop} {p:Hp→α→Prop} (hc:Cod P e α c D p) (o:∀ x,(c x).length=sz) (a1:P.cellsOf e=sz) (ht:P.underlying T=some (.array k e)) (hT:P.cellsOf T=k * sz)
  (q:DataW Unit→Option α) (s:∀ d a,D d a→q d=some a) {tab:List α} {ds:List (DataW Unit)} (g:ds.mapM q=some tab)
  {enc:TypeId×Value→Unit} {w:World} {u:Nat} {sp:Nat→Bool} {m:Bool} {v:Nat} {cs:List Value} {ps:List MemPlace} (h:DataW.trod enc P w u sp m v T cs=some (.agg ds,ps)):cs=tab.flatMap c:=by
 obtain ⟨hl,n,ys,rfl,hx,a2,hy⟩:=C8n ht h
 have l:ds=ys.map (·.1):=by simpa using hx
 have a3:ds.length=k:=by rw [l];simpa using a2
 have z:tab.length=k:=by rw [← a3];exact Lib.mapM_length g
 have a0:∀ (i:Nat),i<k→∃ a,tab[i]?=some a∧(cs.drop (i * sz)).take sz=c a:=by
  intro i hi
  obtain ⟨y,h1,t⟩:=hy i hi
  rw [a1] at t
  obtain ⟨a,h3,h4,_⟩:=hc t
  obtain ⟨b,h5,h6⟩:=B9r g i y.1 (by rw [l];simp [h1])
  rw [s _ _ h4] at h6
  obtain rfl:a=b:=Option.some.inj h6
  exact ⟨a,h5,h3⟩
 rw [hT,← z] at hl
 apply List.ext_getElem?
 intro j
 by_cases hj:j<tab.length * sz
 ·have f:0<sz:=by
   rcases Nat.eq_zero_or_pos sz with r | r
   ·rw [r,Nat.mul_zero] at hj;omega
   ·exact r
  have hk:j / sz<tab.length:=by rw [Nat.div_lt_iff_lt_mul f];exact hj
  have hm:j % sz<sz:=Nat.mod_lt _ f
  have e1:j / sz * sz+j % sz=j:=by rw [Nat.mul_comm];exact Nat.div_add_mod j sz
  obtain ⟨a,r,h1⟩:=a0 (j / sz) opx
  have t:=C5k o a hk hm
  rw [e1] at t
  rw [t,show tab.getD (j / sz) a=a by simp [List.getD_eq_getElem?_getD,r],← h1,List.getElem?_take,if_pos hm,List.getElem?_drop,e1]
 ·rw [List.getElem?_eq_none opx,List.getElem?_eq_none (by rw [G4 o];omega)]
theorem B5m {i:List (String×DataW Unit)} {w:World} {b:String} {g T:Nat} {ds:List (DataW Unit)} (m:(b,.agg ds) ∈ i) (hg:P.globalNamed b=some g) (hT:(P.globals[g]?).map (·.type)=some T)
  {e sz k:Nat} {α:Type} {c:α→List Value} {D:{H:Type}→DataW H→α→Prop} {p:Hp→α→Prop} (hc:Cod P e α c D p) (a1:∀ x,(c x).length=sz) (a2:P.cellsOf e=sz) (ht:P.underlying T=some (.array k e)) (a4:P.cellsOf T=k * sz)
  (o:DataW Unit→Option α) (z:∀ d a,D d a→o d=some a) {tab:List α} (u:ds.mapM o=some tab) (h:laidMet P i w):(sl c (some ⟨g,0,none⟩) tab).p (C6o w):=by
 obtain ⟨ps,h,_⟩:=h
 have:∀ (l:List (String×DataW Unit)) (ps:List MemPlace),DataW.LaidVars P w l ps→(b,.agg ds) ∈ l→∃ cs f q,w.var? P b=some cs∧DataW.trod (fun _=>()) P w 0 (fun _=>true) false f T cs.toList=some (.agg ds,q):=by
  intro l
  induction l with
  | nil=>intro ps _ m;cases m
  | cons y r ih =>
   intro ps h m
   obtain ⟨n,d⟩:=y
   obtain ⟨g',t,cs,f,p',q,h1,h2,h3,h4,h5,_⟩:=h
   rcases List.mem_cons.1 m with e | m
   ·simp only [Prod.mk.injEq] at e
    obtain ⟨rfl,rfl⟩:=e
    rw [hg] at h1
    obtain rfl:g=g':=Option.some.inj h1
    rw [hT] at h2
    obtain rfl:T=t:=Option.some.inj h2
    exact ⟨cs,f,p',h3,h4⟩
   ·exact ih q h5 m
 obtain ⟨cs,f,q,s,a3⟩:=this i ps h m
 have a0:=D6x hc a1 a2 ht a4 o z u a3
 unfold World.var? at s
 rw [hg] at s
 simp only [Option.bind_some] at s
 split at s
 ·rename_i cs' TT fr hh
  obtain rfl:cs'=cs:=Option.some.inj s
  refine .inr ⟨rfl,cs',TT,fr,hh,fun j v hj=>?_⟩
  rw [← a0] at hj
  simpa using hj
 ·cases s
theorem E3q {f:Func} {s:ChangeSpec} {H:Type} {enc:TypeId×Value→H} (hl:laidOutB P=true) (u:(f.params.toList.all fun t=>P.readableRec t&&decide (t<P.types.size))=true) (m:f.resultTypes=#[4]) (hb:P.underlying 4=some .bool) (hv:s.vars=[])
  {W W':World} {args:Array Value} {ds n:List (DataW H)} {c:List MemPlace} (hW:DataW.Whole enc P f.params.toList s.vars false W args.toList ds n c) (hk:Below W.heap.size W W')
  (z:s.fn H ds={results:=[.lit (.bool true)],args:=ds}):s.post enc P f false true false false W args (.bool true) W':=by
 have k:=hW
 obtain ⟨p,q,hA,y,rfl,a8,a6⟩:=hW
 rw [hv] at y
 have w:n=[]∧q=[]:=by
  cases n with
  | nil=>exact ⟨rfl,y⟩
  | cons g n=>exact y.elim
 obtain ⟨rfl,rfl⟩:=w
 simp only [List.append_nil] at k
 have a0:∀ x ∈ p,x.block<W.heap.size:=fun x r=>k.lt x r
 have a:s.fn H (ds++[])={results:=[.lit (.bool true)],args:=ds}:=by simpa using z
 have j:∀ (l:List TypeId) (e:List Value) (ds:List (DataW H)) (ps:List MemPlace),(l.all fun t=>P.readableRec t&&decide (t<P.types.size))=true→DataW.TrodAll enc P W 0 (fun _=>true) true l e ds ps→(∀ x ∈ ps,x.block<W.heap.size)→DataW.TrodAll enc P W' 0 (fun b=>decide (b<W.heap.size)) true l e ds ps:=by
  intro l
  induction l with
  | nil=>intro e ds ps _ h _;cases e<;>cases ds<;>exact h
  | cons t l ih =>
   intro e ds ps o h r
   cases e with
   | nil=>cases ds<;>exact h.elim
   | cons v e =>
    cases ds with
    | nil=>exact h.elim
    | cons d ds =>
     simp only [List.all_cons,Bool.and_eq_true,decide_eq_true_eq] at o
     obtain ⟨p1,q1,h1,h2,rfl⟩:=h
     exact ⟨p1,q1,Below.trod hl o.1.1 o.1.2 h1 hk (fun x i=>r x (List.mem_append_left _ i)),ih e ds q1 (by simpa using o.2) h2 (fun x i=>r x (List.mem_append_right _ i)),rfl⟩
 refine ⟨ds,[],p,[],p,[],k,?_,?_,?_,hk.frame _,fun h=>by cases h⟩
 ·rw [a,m]
  refine ⟨[],[],⟨1,?_⟩,rfl,rfl⟩
  simp [DataW.trod,hb,Value.cells,Value.resultList]
 ·rw [a];exact j _ _ _ _ u hA a0
 ·rw [a,hv];rfl
end
def C9q (P:Program) (h:Hp) (b:Value) (args:List Value) (r:Value):Prop :=
 ∃ (k:FuncId) (first cap:Array Value),b=.func (.func k) first cap∧HasBody P k∧∀ (w:World) (a:Hp),h.le a→a.sub w→A2i [] a w →
  Calls P k (first++args.toArray++cap) w fun e w'=>∃ _:Unit,e=.returned r∧cC (cx w a []) [] [] w'
theorem C9q.mono {P:Program} {h b:Hp} {c:Value} {args:List Value} {r:Value} (i:h.le b) (l:C9q P h c args r):C9q P b c args r:=by
 obtain ⟨k,first,cap,e,d,H⟩:=l
 exact ⟨k,first,cap,e,d,fun w f a j g=>H w f (Hp.le_trans i a) j g⟩
def N7 (P:Program) (b:Value) (C:List Value→Value→Prop):Pers:=⟨fun h=>∀ args r,C args r→C9q P h b args r,fun c a args r d=>(a args r d).mono c⟩
def C5m (P:Program) (l:List (Int×Value)) (C:Int→List Value→Value→Prop):Pers:=⟨fun h=>∀ k,S9 k l=true→∀ args r,C k args r→C9q P h (cH k .nilFunc l) args r,fun c a k b args r d=>(a k b args r d).mono c⟩
theorem D6d {α:Type} (b k:Int) (v:α):∀ (l:List (Int×α)),S9 b (l++[(k,v)])=(S9 b l||decide (b=k))
 | []=>by simp [S9]
 | (a,u)::l=>by simp only [List.cons_append,S9,D6d b k v l];cases decide (b=a)<;>rfl
theorem E2u (b k:Int) (z v:Value):∀ (l:List (Int×Value)),cH b z (l++[(k,v)])=if S9 b l=true then cH b z l else bif decide (b=k) then v else z
 | []=>by simp [S9,cH]
 | (a,u)::l=>by
  simp only [List.cons_append,cH,S9,E2u b k z v l]
  by_cases e:b=a
  ·simp [e]
  ·simp [e]
theorem C6b {α:Type} (k:Int):∀ (l:List (Int×α)),S9 k l=(l.map Prod.fst).contains k
 | []=>rfl
 | (a,v)::l=>by
  simp only [S9,List.map_cons,List.contains_cons,C6b k l]
  by_cases h:k=a
  ·subst h;simp
  ·simp [h]
theorem D1h (k:Int) (v:Value):∀ (l:List (Int×Value)) (j:Nat),B6 (l++[(k,v)]) j=B6 l j++[⟨.int .i64 k,v,j+l.length⟩]
 | [],j=>rfl
 | (a,u)::l,j=>by simp only [List.cons_append,B6,D1h k v l,List.length_cons];congr 4;omega
theorem D6i {k:Int}:∀ (l:List (Int×Value)) (j i:Nat),k ∉ l.map Prod.fst→Instr.findNow (.int .i64) (.int .i64 k) (B6 l j) i=some none
 | [],j,i,h=>rfl
 | (a,v)::l,j,i,h=>by
  simp only [List.map_cons,List.mem_cons,not_or] at h
  have b:(k == a)=false:=by simpa using h.1
  simp only [B6,Instr.findNow,Instr.sameNow,if_true,b]
  exact D6i l (j+1) (i+1) h.2
section
variable {P:Program} {n:Nat} {X:Cx} {E:bX} {L:Own} {Φ Φ' Φ0:List Pers}
theorem D8s {o:Oper} {T e b sz:Nat} {agg:Bool} {x y:Operand} {a:Addr} {m:Int} (q:P.underlying T=some (.array b e)) (p:Ty P e sz agg) (h:o.op=.slice T x (some y) none none) (j:ev E x=some (.pointer (some a))) (l:ev E y=some (.int .i64 m)) (k:Nat) (n:m=k) (i:k<b):I6 P X o E L Φ (.slice (some (a.add (k * sz))) (b - k) (b - k)):=.of_run fun r w f _=>by
 have g:=A4s (P:=P) f (A0i (d:=0) l n) (Nat.le_of_lt i) .sliceB w
 have c:¬ b=k:=by omega
 simp [execOp,h,C3 f j,Instr.sliceAt,run_underlying q,Instr.sureAddr,Instr.sliceBounds,p.size,g,c]
theorem B2r (x:Int):0≤bW .and .u64 x 15∧bW .and .u64 x 15≤15:=by
 have a:(BitVec.ofInt 64 x &&& BitVec.ofInt 64 15).toNat≤15:=by
  rw [BitVec.toNat_and];exact Nat.and_le_right
 have e:bW .and .u64 x 15=((BitVec.ofInt 64 x &&& BitVec.ofInt 64 15).toNat:Int):=by
  unfold bW
  exact A0j (by simp [IntKind.min,IntKind.signed]) (by simp only [IntKind.max,IntKind.signed,IntKind.bits];show (_:Int)≤_;simp;omega)
 rw [e];omega
theorem A9h {o:Oper} {T:TypeId} {x y:Operand} {s:List UInt8} {b:IntKind} {m:Int} (h:P.underlying T=some .string) (c:o.op=.index T x y) (e:ev E x=some (.string (bs s))) (f:ev E y=some (.int b m)) (k:Nat) (g:m=k) (d:k<s.length) :
  I6 P X o E L Φ (.int .u8 ((s.getD k 0).toNat:Int)):=.of_run fun j w a _=>by
 subst g
 have i:(0:Int)≤k:=by omega
 simp [execOp,c,C3 a e,C3 a f,Instr.index,asIntOf,run_underlying h,E7i s k d]
theorem D8f {o:Oper} {T e sz len:Nat} {agg:Bool} {x y:Operand} {a:Addr} {c:IntKind} {m:Int} (n:P.underlying T=some (.array len e)) (l:Ty P e sz agg) (d:o.op=.indexAddr T x y)
  (g:ev E x=some (.pointer (some a))) (h:ev E y=some (.int c m)) (k:Nat) (i:m=k) (f:k<len):I6 P X o E L Φ (.pointer (some (a.add (k * sz)))):=.of_run fun p w b _=>by
 subst i
 have j:(0:Int)≤k∧(k:Int)<len:=by omega
 simp [execOp,d,C3 b g,C3 b h,Instr.indexAt,asIntOf,run_underlying n,Instr.sureAddr,l.size,j,Nat.not_le.2 f]
theorem E8d {c:Func} {r s t q:ResultVar} {v u x y:Value} (d:c.results=#[r,s,t,q]) (h:C4d P n X r E L Φ v) (k:C4d P n X s E L Φ u) (l:C4d P n X t E L Φ x) (m:C4d P n X q E L Φ y):Res P n X c E L Φ (.tuple #[v,u,x,y]):=fun a w b=>by
 simp [B3m,d,h a w b,k a w b,l a w b,m a w b]
theorem S8 {c:Value} {C:List Value→Value→Prop} (h:∀ args r,C args r→C4 P c args Φ0 r) (d:A9 Φ Φ0):S1 Φ (N7 P c C):=fun p j args r i=>by
 obtain ⟨k,first,cap,e,a⟩:=h args r i
 refine ⟨k,first,cap,e,a.1,fun w f b l g=>?_⟩
 have:=a.2 w f (fun q m=>q.mono b (d p j q m)) l g
 rw [Array.toArray_toList] at this
 exact this
theorem D9n {a:Value} {C C':List Value→Value→Prop} (h:S1 Φ (N7 P a C)) (c:∀ args r,C' args r→C args r):S1 Φ (N7 P a C'):=fun p b args r d=>h p b args r (c args r d)
theorem E7z {C:Int→List Value→Value→Prop}:S1 Φ (C5m P [] C):=fun p b k a=>by cases a
theorem E7m {l:List (Int×Value)} {k:Int} {v:Value} {C:Int→List Value→Value→Prop} (g:S1 Φ (C5m P l C)) (f:S1 Φ (N7 P v (C k))):S1 Φ (C5m P (l++[(k,v)]) C):=fun p b a c args r d=>by
 rw [E2u]
 rw [D6d] at c
 by_cases h:S9 a l=true
 ·rw [if_pos h];exact g p b a h args r d
 ·rw [if_neg h]
  have e:a=k:=by simpa [h] using c
  subst e
  rw [decide_eq_true rfl,cond_true]
  exact f p b args r d
theorem E8 {o:Oper} {T kt e:Nat} {m f vv:Operand} {b:Nat} {k:Int} {v:Value} {l:List (Int×Value)} {ks:List Int} {C:Int→List Value→Value→Prop} (hT:MapTy P T kt e (.int .i64)) (ho:o.op=.insert T m f vv∨o.op=.mapUpdate T m f vv) (y:ev E m=some (.map (some b))) (t:ev E f=some (.int .i64 k)) (hv:ev E vv=some v)
  (i:Nat) (hi:L[i]?=some (b,.map (B6 l 0).toArray l.length)) (d:l.map Prod.fst=ks) (hn:k ∉ ks) (h1:S1 Φ (C5m P l C)) (h2:S1 Φ (N7 P v (C k))) (z:A9 Φ Φ') :
  Tri P n X o E L Φ {s:List (Int×Value) // s.map Prod.fst=ks++[k]} (fun _=>undef) (fun x=>L.set i (b,.map (B6 x.1 0).toArray x.1.length)) (fun x=>C5m P x.1 C::Φ'):=by
 have h:=F3 (P:=P) (n:=n) (X:=X) (Φ:=Φ) (es':=(B6 (l++[(k,v)]) 0).toArray) hT ho y t hv i hi (by rw [List.toList_toArray];exact D6i _ _ 0 (by rw [d];exact hn)) (by rw [D1h];simp)
 intro a w K Q hs g
 refine h a w K Q hs fun u w' r=>?_
 refine g ⟨l++[(k,v)],by rw [List.map_append,d];rfl⟩ w' ?_
 have h3:=(r.fact (C5m P (l++[(k,v)]) C) (E7m h1 h2)).foll (Φ':=C5m P (l++[(k,v)]) C::Φ') (fun p j q c=>by
  rcases List.mem_cons.1 c with rfl | c
  ·exact j _ (List.mem_cons_self ..)
  ·exact z p (fun q c=>j q (List.mem_cons_of_mem _ c)) q c)
 simpa using h3
theorem E4d {o:Oper} {c:Call} {s:Operand} {d:List Value} {k:Int} {l:List (Int×Value)} {C:Int→List Value→Value→Prop} {r:Value}
  (m:S1 Φ (C5m P l C)) (j:S9 k l=true) (h:C k d r) (z:o.op=.call c) (hc:c.callee=.value s) (n:ev E s=some (cH k .nilFunc l)) (b:c.args.toList.mapM (ev E)=some d):Det P X o E L Φ r:=by
 intro a x w u
 obtain ⟨p,q⟩:=u
 obtain ⟨v,first,cap,e,y,_⟩:=m p q.facts k j d r h
 have f:J5 P v ((first++d.toArray++cap).toList) [C5m P l C] r:=by
  refine ⟨y,fun w' t hq hs g=>?_⟩
  obtain ⟨k2,f2,c2,i,_,H⟩:=hq _ (List.mem_cons_self ..) k j d r h
  rw [e] at i
  cases i
  have:=H w' t (Hp.le_refl _) hs g
  rw [Array.toArray_toList]
  exact this
 rw [e] at n
 exact A8n f z hc n b rfl (A9.con1 m A9.nil) a x w ⟨p,q⟩
end
section
variable {P:Program} {n:Nat} {X:Cx} {K:Go.Act→World→Prop} {Q:Exit→Go.Act→World→Prop} {E:bX} {L L':Go.Fen.Own} {Φ:List Pers}
theorem E9a {b:Array Oper} {i m:Nat} (d:L.Perm L') (h:JI P n X b i m K Q E L' Φ):JI P n X b i m K Q E L Φ:=fun a w c=>h a w ⟨c.size,c.defers,c.has,c.world.perm d⟩
theorem B1j {a:Array Oper} {i m:Nat} (b:L=L') (h:JI P n X a i m K Q E L' Φ):JI P n X a i m K Q E L Φ:=b▸h
theorem F3m {c:Code} (a:L=L') (h:J P n X c Q E L' Φ):J P n X c Q E L Φ:=a▸h
end
def E8u (P:Program) (T:Nat):Option (Nat×Bool) :=
 match P.info? T,P.underlying T with
 | some i,some d=>some (i.size,TypeDesc.row d)
 | _,_=>none
theorem E2r {P:Program} {T sz:Nat} {agg:Bool} (h:E8u P T=some (sz,agg)):Ty P T sz agg:=⟨by
 unfold E8u at h
 unfold TyB
 split at h
 ·rename_i i d b a
  simp only [Option.some.injEq,Prod.mk.injEq] at h
  obtain ⟨rfl,rfl⟩:=h
  simp [b,a]
 ·cases h⟩
def ldV (sz:Nat) (agg:Bool) (cs:List Value) (off:Nat):Option Value :=
 match agg with
 | true=>match Nat.beq ((cs.drop off).take sz).length sz with
  | true=>some (.agg ((cs.drop off).take sz).toArray)
  | false=>none
 | false=>match Nat.beq sz 1 with
  | true=>cs[off]?
  | false=>none
def E1a (v:Value) (sz off:Nat) (cs:List Value):Bool:=Nat.beq v.cells.toList.length sz&&v.cells.toList.all (·.oneCell')&&Nat.ble (off+sz) cs.length
def B5f (P:Program) (E:bX) (L:Own) (a bs:List Nat):Op→Option (Value×Own×List Nat×List Nat×List (Nat×Nat))
 | .load T x=>match ev E x,a with
  | some (.pointer (some ⟨b,off,none⟩)),j::hs'=>match L[j]?,E8u P T with
   | some (b',.cells cs TT (0,0)),some (sz,agg)=>match ldV sz agg cs.toList off with
    | some v=>some (v,L,hs',bs,[(b,b')])
    | none=>none
   | _,_=>none
  | _,_=>none
 | .store T x y=>match ev E x,ev E y,a with
  | some (.pointer (some ⟨b,off,none⟩)),some v,j::hs'=>match L[j]?,E8u P T with
   | some (b',.cells cs TT (0,0)),some (sz,_)=>match E1a v sz off cs.toList with
    | true=>some (undef,L.set j (bx b' (Z4 cs.toList v.cells.toList off) TT),hs',bs,[(b,b')])
    | false=>none
   | _,_=>none
  | _,_,_=>none
 | .box T x=>match ev E x,bs with
  | some v,b::bs'=>some (.pointer (some ⟨b,0,none⟩),bx b v.cells.toList T::L,a,bs',[])
  | _,_=>none
 | .alloc T=>match (P.info? T).bind (·.zero),bs with
  | some z,b::bs'=>some (.pointer (some ⟨b,0,none⟩),bx b z.cells.toList T::L,a,bs',[])
  | _,_=>none
 | .build T ps=>match B3z E ps.toList with
  | some vs=>match E0j P T vs with
   | some cs=>some (.agg cs,L,a,bs,[])
   | none=>none
  | none=>none
 | op=>match B6r P E op with
  | some v=>some (v,L,a,bs,[])
  | none=>none
def exN (P:Program) (n:Nat) (a:Array Oper):Nat→Nat→List Nat→List Nat→bX→Own→List (Nat×Nat)→Option (bX×Own×List Nat×List (Nat×Nat))
 | 0,_,_,bs,E,L,ps=>some (E,L,bs,ps)
 | k+1,i,hs,bs,E,L,ps=>match a[i]? with
  | none=>none
  | some o=>match A6r a o E,X6 n o.dst with
   | some false,true=>exN P n a k (i+1) hs bs (bX.put E o.dst undef) L ps
   | some true,true=>match B5f P E L hs bs o.op with
    | some (v,L',hs',bs',pr)=>exN P n a k (i+1) hs' bs' (bX.put E o.dst v) L' (pr++ps)
    | none=>none
   | _,_=>none
section
variable {P:Program} {n:Nat} {X:Cx} {K:Act→World→Prop} {Q:Exit→Act→World→Prop} {E E':bX} {L L':Own} {Φ Φ':List Pers}
def Op.turns:Op→Bool
 | .box _ _=>true
 | .alloc _=>true
 | .store _ _ _=>true
 | _=>false
theorem D4z {c:Array Oper}:∀ (k i:Nat) {b bs:List Nat} {E R:bX} {L L2:Own} {ps a:List (Nat×Nat)} {d:List Nat},exN P n c k i b bs E L ps=some (R,L2,d,a)→∀ q ∈ ps,q ∈ a
 | 0,i,b,bs,E,R,L,L2,ps,a,d,h,q,hq=>by
  simp only [exN,Option.some.injEq,Prod.mk.injEq] at h
  rw [← h.2.2.2];exact hq
 | k+1,i,b,bs,E,R,L,L2,ps,a,d,h,q,hq=>by
  unfold exN at h
  split at h
  ·cases h
  ·split at h
   ·exact D4z k (i+1) h q hq
   ·split at h
    ·exact D4z k (i+1) h q (List.mem_append_right _ hq)
    ·cases h
   ·cases h
theorem D2t {o:Oper} {p bs d e:List Nat} {v:Value} {n:List (Nat×Nat)} (c:Op.turns o.op=false) (h:B5f P E L p bs o.op=some (v,L',d,e,n)) (z:∀ q ∈ n,q.1=q.2) :
  e=bs∧L'=L∧(∀ i,B5f P E L p i o.op=some (v,L',d,i,n))∧I6 P X o E L Φ v:=by
 cases ho:o.op with
 | box T x=>rw [ho] at c;cases c
 | alloc T=>rw [ho] at c;cases c
 | store T x y=>rw [ho] at c;cases c
 | load T x =>
  rw [ho] at h
  simp only [B5f] at h
  split at h
  ·rename_i b off j w m
   split at h
   ·rename_i b' cs TT sz agg t r
    split at h
    ·rename_i u a
     simp only [Option.some.injEq,Prod.mk.injEq] at h
     obtain ⟨rfl,rfl,rfl,rfl,rfl⟩:=h
     obtain rfl:b=b':=z (b,b') oom
     refine ⟨rfl,rfl,fun i=>?_,?_⟩
     ·simp only [B5f,m,t,r,a]
     ·have g:=E2r r
      have s:L[j]?=some (bx b cs.toList TT):=by rw [t]
      unfold ldV at a
      cases agg with
      | true =>
       simp only at a
       split at a
       ·rename_i l
        obtain rfl:=Option.some.inj a
        exact D6 g ho m j s rfl (Nat.eq_of_beq_eq_true l)
       ·cases a
      | false =>
       simp only at a
       split at a
       ·rename_i l
        obtain rfl:=Nat.eq_of_beq_eq_true l
        exact A2 g ho m j s a
       ·cases a
    ·cases h
   ·cases h
  ·cases h
 | build T ps =>
  rw [ho] at h
  simp only [B5f] at h
  split at h
  ·rename_i vs f
   split at h
   ·rename_i cs k
    simp only [Option.some.injEq,Prod.mk.injEq] at h
    obtain ⟨rfl,rfl,rfl,rfl,rfl⟩:=h
    refine ⟨rfl,rfl,fun i=>by simp only [B5f,f,k],?_⟩
    have:=U8 (X:=X) (L:=L) (Φ:=Φ) (cs:=cs.toList) ho f (by simpa using k)
    simpa using this
   ·cases h
  ·cases h
 | _ =>
  all_goals
   rw [ho] at h
   simp only [B5f] at h
   split at h
   ·rename_i u a
    simp only [Option.some.injEq,Prod.mk.injEq] at h
    obtain ⟨rfl,rfl,rfl,rfl,rfl⟩:=h
    refine ⟨rfl,rfl,fun i=>by simp only [B5f,a],I6.pure (by rw [ho];exact a)⟩
   ·cases h
theorem D9q {o:Oper} {T:Nat} {x y:Operand} {l bs c d:List Nat} {v:Value} {g:List (Nat×Nat)} (e:o.op=.store T x y) (h:B5f P E L l bs o.op=some (v,L',c,d,g)) (s:∀ q ∈ g,q.1=q.2) :
  d=bs∧(∀ f,B5f P E L l f o.op=some (v,L',c,f,g))∧Tri P n X o E L Φ Unit (fun _=>v) (fun _=>L') (fun _=>Φ):=by
 rw [e] at h
 simp only [B5f] at h
 split at h
 ·rename_i b off u j r i k
  split at h
  ·rename_i b' cs TT sz agg p m
   split at h
   ·rename_i a
    simp only [Option.some.injEq,Prod.mk.injEq] at h
    obtain ⟨rfl,rfl,rfl,rfl,rfl⟩:=h
    obtain rfl:b=b':=s (b,b') oom
    refine ⟨rfl,fun f=>?_,?_⟩
    ·rw [e];simp only [B5f,i,k,p,m,a]
    ·have t:L[j]?=some (bx b cs.toList TT):=by rw [p]
     unfold E1a at a
     simp only [Bool.and_eq_true] at a
     exact D8 (E2r m) e i k j t oom (Nat.eq_of_beq_eq_true a.1.1) a.1.2 rfl a.2
   ·cases h
  ·cases h
 ·cases h
theorem A8h {d:Array Oper} {m:Nat}:∀ (k i:Nat) (f:List Nat) (c:Nat) {E:bX} {L:Own} {ps:List (Nat×Nat)},
  (∀ bs:List Nat,bs.length=c→∃ R L2 j,exN P n d k i f bs E L ps=some (R,L2,[],j)∧(∀ q ∈ j,q.1=q.2)∧JI P n X d (i+k) m K Q R L2 Φ)→JI P n X d i (k+m) K Q E L Φ
 | 0,i,f,c,E,L,ps,H=>by
  obtain ⟨R,L2,j,h,r,p⟩:=H (List.replicate c 0) oom
  simp only [exN,Option.some.injEq,Prod.mk.injEq] at h
  obtain ⟨rfl,rfl,_,_⟩:=h
  rw [Nat.zero_add];exact p
 | k+1,i,f,c,E,L,ps,H=>by
  obtain ⟨R,L2,j,h,r,p⟩:=H (List.replicate c 0) oom
  have h0:=h
  unfold exN at h
  rw [Nat.add_right_comm]
  split at h
  ·cases h
  ·rename_i o ho
   have g:∀ bs,exN P n d (k+1) i f bs E L ps=match A6r d o E,X6 n o.dst with
     | some false,true=>exN P n d k (i+1) f bs (bX.put E o.dst undef) L ps
     | some true,true=>match B5f P E L f bs o.op with
      | some (v,L',l,a4,pr)=>exN P n d k (i+1) l a4 (bX.put E o.dst v) L' (pr++ps)
      | none=>none
     | _,_=>none:=fun bs=>by rw [exN];simp only [ho]
   split at h
   ·rename_i hr w
    refine E1e ho hr w (A8h (ps:=ps) k (i+1) f c fun bs t=>?_)
    obtain ⟨R,L2,j,h,r,p⟩:=H bs t
    rw [g,hr,w] at h
    exact ⟨R,L2,j,h,r,by rw [Nat.add_assoc,Nat.add_comm 1 k];exact p⟩
   ·rename_i hr w
    split at h
    ·rename_i v L' l a4 pr hx
     have a6:∀ q ∈ pr,q.1=q.2:=fun q aa=>r q (D4z k (i+1) h q (List.mem_append_left _ aa))
     have next:∀ bs b2,B5f P E L f bs o.op=some (v,L',l,b2,pr)→exN P n d (k+1) i f bs E L ps=exN P n d k (i+1) l b2 (bX.put E o.dst v) L' (pr++ps):=fun bs b2 t=>by
      rw [g,hr,w];simp only [t]
     cases ht:Op.turns o.op with
     | false =>
      obtain ⟨_,rfl,s,a5⟩:=D2t (X:=X) (Φ:=Φ) ht hx a6
      refine D4n ho hr w a5.det (A8h (ps:=pr++ps) k (i+1) l c fun bs t=>?_)
      obtain ⟨R,L2,j,h,r,p⟩:=H bs t
      rw [next bs bs (s bs)] at h
      exact ⟨R,L2,j,h,r,by rw [Nat.add_assoc,Nat.add_comm 1 k];exact p⟩
     | true =>
      cases hop:o.op with
      | store T x y =>
       obtain ⟨_,s,a7⟩:=D9q (n:=n) (X:=X) (Φ:=Φ) hop hx a6
       refine C9a ho hr w a7 fun _=>(A8h (ps:=pr++ps) k (i+1) l c fun bs t=>?_)
       obtain ⟨R,L2,j,h,r,p⟩:=H bs t
       rw [next bs bs (s bs)] at h
       exact ⟨R,L2,j,h,r,by rw [Nat.add_assoc,Nat.add_comm 1 k];exact p⟩
      | box T x =>
       have a:=hx
       rw [hop] at a
       simp only [B5f] at a
       split at a
       ·rename_i u b0 ab hu a0
        obtain ⟨c',rfl⟩:∃ c',c=c'+1:=by
         cases c with
         | zero=>cases a0
         | succ c=>exact ⟨c,rfl⟩
        refine C9a ho hr w (A2t (cs:=u.cells.toList) hop hu oom) fun b=>(A8h (ps:=ps) k (i+1) f c' fun bs t=>?_)
        ·obtain ⟨R,L2,j,h,r,p⟩:=H (b::bs) (by simp [t])
         have e:B5f P E L f (b::bs) o.op=some (.pointer (some ⟨b,0,none⟩),bx b u.cells.toList T::L,f,bs,[]):=by rw [hop];simp only [B5f,hu]
         rw [g,hr,w] at h
         simp only [e] at h
         exact ⟨R,L2,j,h,r,by rw [Nat.add_assoc,Nat.add_comm 1 k];exact p⟩
       ·cases a
      | alloc T =>
       have a:=hx
       rw [hop] at a
       simp only [B5f] at a
       split at a
       ·rename_i z b0 ab hz a0
        obtain ⟨c',rfl⟩:∃ c',c=c'+1:=by
         cases c with
         | zero=>cases a0
         | succ c=>exact ⟨c,rfl⟩
        refine C9a ho hr w (S4 (cs:=z.cells.toList) ⟨by rw [hz];simp⟩ hop) fun b=>(A8h (ps:=ps) k (i+1) f c' fun bs t=>?_)
        ·obtain ⟨R,L2,j,h,r,p⟩:=H (b::bs) (by simp [t])
         have e:B5f P E L f (b::bs) o.op=some (.pointer (some ⟨b,0,none⟩),bx b z.cells.toList T::L,f,bs,[]):=by rw [hop];simp only [B5f,hz]
         rw [g,hr,w] at h
         simp only [e] at h
         exact ⟨R,L2,j,h,r,by rw [Nat.add_assoc,Nat.add_comm 1 k];exact p⟩
       ·cases a
      | _=>all_goals (rw [hop] at ht;cases ht)
    ·cases h
   ·cases h
theorem D4k {b:Array Oper} {a:bX} {t:Nat} {v:Value} (E0:bX) (f:E0.lookup t=some v) (l:a.lookup t=none):∀ (k i:Nat) {m bs:List Nat} {E R:bX} {L L2:Own} {ps g:List (Nat×Nat)} {j:List Nat},
  C9x b E0 a k i=true→exN P n b k i m bs E L ps=some (R,L2,j,g)→E.lookup t=some v→R.lookup t=some v
 | 0,i,m,bs,E,R,L,L2,ps,g,j,_,h,he=>by
  simp only [exN,Option.some.injEq,Prod.mk.injEq] at h
  rw [← h.1];exact he
 | k+1,i,m,bs,E,R,L,L2,ps,g,j,hk,h,he=>by
  unfold exN at h
  unfold C9x at hk
  simp only [Bool.and_eq_true] at hk
  split at h
  ·cases h
  ·rename_i o p
   have c:o.dst≠some t:=by
    intro c
    have:=hk.1
    simp only [p,Option.bind_some,c,B6t,l,f] at this
    simp at this
   have put:∀ u,(bX.put E o.dst u).lookup t=some v:=by
    intro u
    cases hdst:o.dst with
    | none=>exact he
    | some d =>
     have:(t == d)=false:=by simp;intro e;exact c (by rw [hdst,e])
     simp only [bX.put,List.lookup,this];exact he
   split at h
   ·exact D4k E0 f l k (i+1) hk.2 h (put _)
   ·split at h
    ·exact D4k E0 f l k (i+1) hk.2 h (put _)
    ·cases h
   ·cases h
def exL (P:Program) (n:Nat) (b:Array Oper) (k i:Nat) (c bs:List Nat) (E:bX) (L:Own) (a:bX):Option (bX×Own×List Nat) :=
 match C9x b E a k i with
 | true=>match exN P n b k i c bs E L [] with
  | some (R,L2,[],ps)=>match B9l R a with
   | some r=>some (r,L2,ps.map Prod.fst)
   | none=>none
  | _=>none
 | false=>none
def exS (P:Program) (n:Nat) (a:Array Oper) (k i:Nat) (b bs:List Nat) (E:bX) (L:Own):List Nat :=
 match exN P n a k i b bs E L [] with
 | some (_,_,_,ps)=>ps.map Prod.snd
 | none=>[]
theorem D6u:∀ (ps:List (Nat×Nat)),ps.map Prod.fst=ps.map Prod.snd→∀ q ∈ ps,q.1=q.2
 | [],_,q,hq=>by cases hq
 | p::ps,h,q,hq=>by
  simp only [List.map_cons,List.cons.injEq] at h
  rcases List.mem_cons.1 hq with rfl | hq
  ·exact h.1
  ·exact D6u ps h.2 q hq
theorem B8u {b:Array Oper} {k i:Nat} {d bs:List Nat} {c:bX} (h:exL P n b k i d bs E L c=some (c,L',exS P n b k i d bs E L)) :
  ∃ R l,exN P n b k i d bs E L []=some (R,L',[],l)∧(∀ q ∈ l,q.1=q.2)∧∀ a,Has a R→Has a (c++E):=by
 unfold exL at h
 split at h
 ·rename_i g
  split at h
  ·rename_i R L2 ps hR
   split at h
   ·rename_i r hr
    simp only [Option.some.injEq,Prod.mk.injEq] at h
    obtain ⟨rfl,rfl,j⟩:=h
    have o:exS P n b k i d bs E L=ps.map Prod.snd:=by unfold exS;rw [hR]
    rw [o] at j
    refine ⟨R,ps,hR,D6u ps j,fun a m t v e=>?_⟩
    rw [B5a] at e
    split at e
    ·rename_i u f
     exact (m.weaken (S3 (C0b hr))) t v (by rw [f];exact e)
    ·rename_i f
     exact m t v (D4k E e f k i g hR e)
   ·cases h
  ·cases h
 ·cases h
theorem D4i {b:Array Oper} {i m:Nat} (hE:∀ a,Has a E→Has a E') (h:JI P n X b i m K Q E' L Φ):JI P n X b i m K Q E L Φ:=fun a w c=>h a w ⟨c.size,c.defers,hE a c.has,c.world⟩
theorem zrg {a:Array Oper} {i:Nat} (k m:Nat) (c:List Nat) (b:bX) (L':Own) (g:JI P n X a (i+k) m K Q (b++E) L' Φ) (h:exL P n a k i c [] E L b=some (b,L',exS P n a k i c [] E L):=by kernel_rfl):JI P n X a i (k+m) K Q E L Φ :=
 A8h k i c 0 fun bs d=>by
  obtain rfl:=List.length_eq_zero_iff.1 d
  obtain ⟨R,j,e,l,f⟩:=B8u h
  exact ⟨R,L',j,e,l,D4i f g⟩
theorem B2b {a:Array Oper} {i:Nat} (k m:Nat) (d:List Nat) (c:Nat→bX) (L':Nat→Own) (g:∀ b,JI P n X a (i+k) m K Q (c b++E) (L' b) Φ) (h:∀ b,exL P n a k i d [b] E L (c b)=some (c b,L' b,exS P n a k i d [b] E L):=by intros;kernel_rfl):JI P n X a i (k+m) K Q E L Φ :=
 A8h k i d 1 fun bs e=>by
  match bs,e with
  | [b],_ =>
   obtain ⟨R,l,f,o,j⟩:=B8u (h b)
   exact ⟨R,L' b,l,f,o,D4i j (g b)⟩
theorem E9d {a:Array Oper} {i:Nat} (k m:Nat) (e:List Nat) (d:Nat→Nat→bX) (L':Nat→Nat→Own) (g:∀ b c,JI P n X a (i+k) m K Q (d b c++E) (L' b c) Φ) (h:∀ b c,exL P n a k i e [b,c] E L (d b c)=some (d b c,L' b c,exS P n a k i e [b,c] E L):=by intros;kernel_rfl):JI P n X a i (k+m) K Q E L Φ :=
 A8h k i e 2 fun bs f=>by
  match bs,f with
  | [b,c],_ =>
   obtain ⟨R,o,j,p,l⟩:=B8u (h b c)
   exact ⟨R,L' b c,o,j,p,D4i l (g b c)⟩
theorem D4x {a:Array Oper} {i:Nat} (k m:Nat) (f:List Nat) (e:Nat→Nat→Nat→bX) (L':Nat→Nat→Nat→Own) (g:∀ b c d,JI P n X a (i+k) m K Q (e b c d++E) (L' b c d) Φ) (h:∀ b c d,exL P n a k i f [b,c,d] E L (e b c d)=some (e b c d,L' b c d,exS P n a k i f [b,c,d] E L):=by intros;kernel_rfl):JI P n X a i (k+m) K Q E L Φ :=
 A8h k i f 3 fun bs j=>by
  match bs,j with
  | [b,c,d],_ =>
   obtain ⟨R,o,q,p,l⟩:=B8u (h b c d)
   exact ⟨R,L' b c d,o,q,p,D4i l (g b c d)⟩
theorem ip' {a:Array Oper} {i:Nat} (k m:Nat) (new:bX) (g:JI P n X a (i+k) m K Q (new++E) L Φ) (h:A4d P n a k i E new=some new:=by kernel_rfl):JI P n X a i (k+m) K Q E L Φ:=ip k m new h g
theorem dp' {a:Array Oper} {i:Nat} (k m:Nat) (new:bX) (g:JD P n X a (i+k) m K (new++E) L Φ) (h:A4d P n a k i E new=some new:=by kernel_rfl):JD P n X a i (k+m) K E L Φ:=dp k m new h g
def C2h (a:Array Oper):Nat→Nat→Bool
 | 0,_=>true
 | k+1,i=>(match a[i]? with
  | some o=>!Op.turns o.op
  | none=>false)&&C2h a k (i+1)
theorem C5s {a:Array Oper} {m:Nat}:∀ (k i:Nat) (e:List Nat) {E R:bX} {L2:Own} {ps d:List (Nat×Nat)},C2h a k i=true→exN P n a k i e [] E L ps=some (R,L2,[],d)→(∀ q ∈ d,q.1=q.2) →
  JD P n X a (i+k) m K R L Φ→JD P n X a i (k+m) K E L Φ
 | 0,i,e,E,R,L2,ps,d,_,h,hq,hk=>by
  simp only [exN,Option.some.injEq,Prod.mk.injEq] at h
  obtain ⟨rfl,_,_,_⟩:=h
  rw [Nat.zero_add];exact hk
 | k+1,i,e,E,R,L2,ps,d,hqt,h,hq,hk=>by
  unfold exN at h
  unfold C2h at hqt
  simp only [Bool.and_eq_true] at hqt
  rw [Nat.add_right_comm]
  have c:JD P n X a (i+1+k) m K R L Φ:=by rw [Nat.add_assoc,Nat.add_comm 1 k];exact hk
  split at h
  ·cases h
  ·rename_i o l
   have u:Op.turns o.op=false:=by have:=hqt.1;rw [l] at this;simpa using this
   split at h
   ·rename_i hr g
    exact E2i l hr g (C5s k (i+1) e hqt.2 h hq c)
   ·rename_i hr g
    split at h
    ·rename_i v L' f s w t
     have j:∀ q ∈ w,q.1=q.2:=fun q p=>hq q (D4z k (i+1) h q (List.mem_append_left _ p))
     obtain ⟨r,x,_,b⟩:=D2t (X:=X) (Φ:=Φ) u t j
     rw [r,x] at h
     exact D4e l hr g b.det (C5s k (i+1) f hqt.2 h hq c)
    ·cases h
   ·cases h
theorem F1m {b:Array Oper} {i m:Nat} (hE:∀ a,Has a E→Has a E') (h:JD P n X b i m K E' L Φ):JD P n X b i m K E L Φ:=fun a c e d=>h a c e (hE a d)
theorem zdg {a:Array Oper} {i:Nat} (k m:Nat) (c:List Nat) (b:bX) (g:JD P n X a (i+k) m K (b++E) L Φ) (h:exL P n a k i c [] E L b=some (b,L,exS P n a k i c [] E L):=by kernel_rfl) (e:C2h a k i=true:=by kernel_rfl):JD P n X a i (k+m) K E L Φ:=by
 obtain ⟨R,l,d,j,f⟩:=B8u h
 exact C5s k i c e d j (F1m f g)
theorem znl {a:Array Oper} {i m:Nat} (L':Own) (g:JI P n X a i m K Q E L' Φ) (h:L=L':=by first|rfl|simp only [List.cons_append,List.append_assoc,List.nil_append,List.append_nil]):JI P n X a i m K Q E L Φ:=h▸g
theorem zjd {ρ:Type} {c:Operand} {x y:Code} {p:Prop} [Decidable p] {A B R:ρ} (b:ev E c=some (.bool (decide p))) (hR:(bif decide p then A else B)=R) (a:A=R→decide p=true→p→J P n X x Q E L Φ) (d:B=R→decide p=false→¬ p→J P n X y Q E L Φ):J P n X (.cond c x y) Q E L Φ :=
 X7 b (fun e=>a (bt hR e) e (of_decide_eq_true e)) (fun e=>d (bf hR e) e (of_decide_eq_false e))
theorem zjn {ρ:Type} {c:Operand} {x y:Code} {p:Prop} [Decidable p] {A B R:ρ} (b:ev E c=some (.bool (!decide p))) (hR:(bif (!decide p) then A else B)=R) (a:A=R→(!decide p)=true→¬ p→J P n X x Q E L Φ) (d:B=R→(!decide p)=false→¬ ¬ p→J P n X y Q E L Φ):J P n X (.cond c x y) Q E L Φ :=
 X7 b (fun e=>a (bt hR e) e (by simpa using e)) (fun e=>d (bf hR e) e (not_not_intro (by simpa using e)))
theorem zjb {ρ:Type} {c:Operand} {x y:Code} {b:Bool} {A B R:ρ} (d:ev E c=some (.bool b)) (hR:(bif b then A else B)=R) (a:A=R→b=true→J P n X x Q E L Φ) (f:B=R→b=false→J P n X y Q E L Φ):J P n X (.cond c x y) Q E L Φ :=
 X7 d (fun e=>a (bt hR e) e) (fun e=>f (bf hR e) e)
theorem F0d (hD:X.D=[]):(X.D.map Prod.fst).Nodup∧∀ d ∈ X.D,d.2=.deferred (some []):=by rw [hD];exact ⟨List.nodup_nil,fun d a=>by cases a⟩
theorem cD {a:Func} {α:Type} {val:α→Value} {L1:α→Own} {Φ1:α→List Pers} {v:Value} (c:X.rho=none) (hD:X.D=[]) (hr:Res P n X a E L Φ v) (x:α) (d:List.Sublist (L1 x) L) (hΦ:A9 Φ (Φ1 x)) (b:val x=v:=by rfl):JQ n X (D3u P X a α val L1 Φ1 .ret) E L Φ :=
 C3j rfl ⟨c,hD⟩ (F0d hD) hr x b d hΦ
theorem zen {a:Func} {α:Type} {val:α→Value} {L1:α→Own} {Φ1:α→List Pers} {v:Value} (c:X.rho=none) (hD:X.D=[]) (hr:Res P n X a E L Φ v) (x:α) (d:List.Sublist (L1 x) L) (hΦ:A9 Φ (Φ1 x)) (b:val x=v:=by rfl):JQ n X (D3u P X a α val L1 Φ1 .normal) E L Φ :=
 D9a rfl ⟨c,hD⟩ (F0d hD) hr x b d hΦ
theorem G0 {a:Func} {t:Nat} {val:Unit→Value} {v:Value} (d:X.rho=none) (hD:X.D=[]) (b:a.results=#[.tmp t]:=by rfl) (h:E.lookup t=some v:=by rfl) (c:val ()=v:=by rfl):JQ n X (D3u P X a Unit val (fun _=>[]) (fun _=>[]) .ret) E L Φ :=
 cD d hD (N4 b (B0 h)) () (List.nil_sublist _) A9.nil c
theorem B1g {a:Func} {t s:Nat} {val:Unit→Value} {v u:Value} (d:X.rho=none) (hD:X.D=[]) (b:a.results=#[.tmp t,.tmp s]:=by rfl) (h:E.lookup t=some v:=by rfl) (k:E.lookup s=some u:=by rfl) (c:val ()=.tuple #[v,u]:=by rfl):JQ n X (D3u P X a Unit val (fun _=>[]) (fun _=>[]) .ret) E L Φ :=
 cD d hD (Q9 b (B0 h) (B0 k)) () (List.nil_sublist _) A9.nil c
theorem zai {R:bX} (c t p:Nat) {v:Value} {g b:Bool} (j:g=b) (hR:R.drop c=E:=by rfl) (f:C6v E t p (R.take c)=true:=by rfl) (k:E.lookup t=some (.bool g):=by rfl) (e:R.lookup t=some (.bool b):=by rfl) (h:R.lookup p=some v:=by rfl) {d:Array Oper} {i:Nat} {Q':Exit→Act→World→Prop}:JI P n X d i 0 (fun a w=>St n X ((p,v)::E) L Φ a w) Q' R L Φ :=
 A3 (O6 c t p j A9.refl (List.Sublist.refl _) hR f k e h)
theorem zad {R:bX} (c t p:Nat) {v:Value} {g b:Bool} (j:g=b) (hR:R.drop c=E:=by rfl) (f:C6v E t p (R.take c)=true:=by rfl) (k:E.lookup t=some (.bool g):=by rfl) (e:R.lookup t=some (.bool b):=by rfl) (h:R.lookup p=some v:=by rfl) {d:Array Oper} {i:Nat}:JD P n X d i 0 (fun a _=>a.tmps.size=n∧a.defers=X.marks∧Has a ((p,v)::E)) R L Φ :=
 C6f (F5o c t p j hR f k e h)
theorem zca {a:Array Oper} {i m:Nat} {o:Oper} {c:Call} {fv:Operand} {k:FuncId} {first cap:Array Value} {vs args:List Value} {Φ0:List Pers} {v:Value} (d:J5 P k args Φ0 v) (hΦ:A9 Φ Φ0)
  (h:JI P n X a (i+1) m K Q (bX.put E o.dst v) L Φ) (e:C3r n a i E=some o:=by rfl) (g:o.op=.call c:=by rfl) (j:c.callee=.value fv:=by rfl) (f:ev E fv=some (.func (.func k) first cap):=by rfl) (b:c.args.toList.mapM (ev E)=some vs:=by rfl) (l:(first++vs.toArray++cap).toList=args:=by rfl):JI P n X a i (m+1) K Q E L Φ :=
 ixc e (A8n d g j f b l hΦ) h
theorem bY {a:Array Oper} {i:Nat} (k m:Nat) (c:List Nat) (b:bX) (g:JI P n X a (i+k) m K Q (b++E) L Φ) (h:exL P n a k i c [] E L b=some (b,L,exS P n a k i c [] E L):=by kernel_rfl):JI P n X a i (k+m) K Q E L Φ:=zrg k m c b L g h
theorem zcm {a:Array Oper} {i m:Nat} {o:Oper} {c:Call} {fv:Operand} {k:FuncId} {first cap:Array Value} {vs args:List Value} {Φ0:List Pers} {α:Type} {val:α→Value} {Φ1:α→List Pers}
  (d:cI P k args [] Φ0 α val (fun _=>[]) Φ1) (hΦ:A9 Φ Φ0) (h:∀ x,JI P n X a (i+1) m K Q (bX.put E o.dst (val x)) L (Φ1 x++Φ)) (e:C3r n a i E=some o:=by rfl) (g:o.op=.call c:=by rfl) (j:c.callee=.value fv:=by rfl)
  (f:ev E fv=some (.func (.func k) first cap):=by rfl) (b:c.args.toList.mapM (ev E)=some vs:=by rfl) (l:(first++vs.toArray++cap).toList=args:=by rfl):JI P n X a i (m+1) K Q E L Φ :=
 it e (G7 (L2:=L) d g j f b l hΦ (List.Perm.refl _) (fun _=>L) (fun _=>rfl)) h
theorem zia {b:Array Oper} {i:Nat} (k m t p:Nat) {g:Bool} (x:Bool) (d:g=true→JI P n X b i k (fun a w=>St n X ((p,.bool x)::E) L Φ a w) Q ((t,.bool true)::E) L Φ) (h:JI P n X b (i+k) m K Q ((p,.bool (g&&x))::E) L Φ)
  (e:E.lookup t=some (.bool g):=by rfl) (c:A4d P n b k i ((t,.bool false)::E) [(p,.bool false)]=some [(p,.bool false)]:=by kernel_rfl):JI P n X b i (k+m) K Q E L Φ:=F3s k m t p x e c d h
theorem zio {b:Array Oper} {i:Nat} (k m t p:Nat) {g:Bool} (x:Bool) (d:g=false→JI P n X b i k (fun a w=>St n X ((p,.bool x)::E) L Φ a w) Q ((t,.bool false)::E) L Φ) (h:JI P n X b (i+k) m K Q ((p,.bool (g||x))::E) L Φ)
  (e:E.lookup t=some (.bool g):=by rfl) (c:A4d P n b k i ((t,.bool true)::E) [(p,.bool true)]=some [(p,.bool true)]:=by kernel_rfl):JI P n X b i (k+m) K Q E L Φ:=ior k m t p x e c d h
theorem zda {b:Array Oper} {i:Nat} (k m t p:Nat) {g:Bool} (x:Bool) (d:g=true→JD P n X b i k (fun a _=>a.tmps.size=n∧a.defers=X.marks∧Has a ((p,.bool x)::E)) ((t,.bool true)::E) L Φ) (h:JD P n X b (i+k) m K ((p,.bool (g&&x))::E) L Φ)
  (e:E.lookup t=some (.bool g):=by rfl) (c:A4d P n b k i ((t,.bool false)::E) [(p,.bool false)]=some [(p,.bool false)]:=by kernel_rfl):JD P n X b i (k+m) K E L Φ:=F4m k m t p x e c d h
theorem zdO {b:Array Oper} {i:Nat} (k m t p:Nat) {g:Bool} (x:Bool) (d:g=false→JD P n X b i k (fun a _=>a.tmps.size=n∧a.defers=X.marks∧Has a ((p,.bool x)::E)) ((t,.bool false)::E) L Φ) (h:JD P n X b (i+k) m K ((p,.bool (g||x))::E) L Φ)
  (e:E.lookup t=some (.bool g):=by rfl) (c:A4d P n b k i ((t,.bool true)::E) [(p,.bool true)]=some [(p,.bool true)]:=by kernel_rfl):JD P n X b i (k+m) K E L Φ:=dor k m t p x e c d h
def bV (m k:Nat):Array Bool:=((List.range m).map k.testBit).toArray
theorem zhk {c:Array Oper} {d:Nat} {a:Array Bool} {b:V2} {Φs:List Pers} (i:Nat) {o:Oper} {v:Value} (listed':Array Bool) (g:c[i]?=some o) (l:I6 P X o E (b.of c i) Φs v) (h:JH P n X c d listed' K b Φs (bX.put E o.dst v) L Φ)
  (f:A6r c o E=some true:=by rfl) (e:X6 n o.dst=true:=by rfl) (k:A9w c b a i=true:=by kernel_rfl) (j:a.setIfInBounds i true=listed':=by kernel_rfl):JH P n X c (d+1) a K b Φs E L Φ :=
 E8j i _ listed' g f e k rfl j l h
theorem zhl {c:Array Oper} {d:Nat} {a:Array Bool} {b:V2} {Φs:List Pers} (i:Nat) {o:Oper} {v:Value} (Ls:Own) (listed':Array Bool) (j:c[i]?=some o) (m:I6 P X o E Ls Φs v) (h:JH P n X c d listed' K b Φs (bX.put E o.dst v) L Φ)
  (g:A6r c o E=some true:=by rfl) (f:X6 n o.dst=true:=by rfl) (l:A9w c b a i=true:=by kernel_rfl) (e:b.of c i=Ls:=by kernel_rfl) (k:a.setIfInBounds i true=listed':=by kernel_rfl):JH P n X c (d+1) a K b Φs E L Φ :=
 E8j i Ls listed' j g f l e k m h
theorem zho {c:Array Oper} {d:Nat} {a:Array Bool} {b:V2} {Φs:List Pers} (i:Nat) {o:Oper} {α:Type} {val:α→Value} {L':α→Own} {Φ':α→List Pers} (Lh:Own) (listed':Array Bool) (g:c[i]?=some o) (l:Tri P n X o E L Φ α val L' Φ') (e:∀ x,Lh.Sublist (L' x)) (hΦ':∀ x,A9 (Φ' x) Φs)
  (h:∀ x,JH P n X c d listed' K b Φs (bX.put E o.dst (val x)) (L' x) (Φ' x)) (m:A6r c o E=some true:=by rfl) (f:X6 n o.dst=true:=by rfl) (hr:Region.ready .any c a=[i]:=by kernel_rfl) (j:a.setIfInBounds i true=listed':=by kernel_rfl) (k:b.at listed'=Lh:=by kernel_rfl) :
  JH P n X c (d+1) a K b Φs E L Φ:=hone i Lh listed' g m f hr j k l e hΦ' h
theorem zhp {f:Array Oper} {c:V2} {Φs:List Pers} (is:List Nat) (d:Nat) {b:Array Bool} (a:Array Bool) (e:bX) (g:JH P n X f d a K c Φs (e++E) L Φ) (h:C1k P n f c is b E e=some (a,e):=by kernel_rfl):JH P n X f (is.length+d) b K c Φs E L Φ:=F3j is d a e h g
theorem zja {ρ:Type} {c:Operand} {x y:Code} {p q:Prop} [Decidable p] [Decidable q] {A B R:ρ} (b:ev E c=some (.bool (decide p&&decide q))) (hR:(bif (decide p&&decide q) then A else B)=R) (a:A=R→(decide p&&decide q)=true→p∧q→J P n X x Q E L Φ) (d:B=R→(decide p&&decide q)=false→¬ (p∧q)→J P n X y Q E L Φ):J P n X (.cond c x y) Q E L Φ :=
 X7 b (fun e=>a (bt hR e) e (by simpa using e)) (fun e=>d (bf hR e) e (by simpa using e))
theorem zjo {ρ:Type} {c:Operand} {x y:Code} {p q:Prop} [Decidable p] [Decidable q] {A B R:ρ} (b:ev E c=some (.bool (decide p||decide q))) (hR:(bif (decide p||decide q) then A else B)=R) (a:A=R→(decide p||decide q)=true→p∨q→J P n X x Q E L Φ) (d:B=R→(decide p||decide q)=false→¬ (p∨q)→J P n X y Q E L Φ):J P n X (.cond c x y) Q E L Φ :=
 X7 b (fun e=>a (bt hR e) e (by simpa using e)) (fun e=>d (bf hR e) e (by simpa using e))
theorem zid {b:Array Oper} {i:Nat} (k m t p:Nat) {g:Prop} [Decidable g] (x:Bool) (d:decide g=true→g→JI P n X b i k (fun a w=>St n X ((p,.bool x)::E) L Φ a w) Q ((t,.bool true)::E) L Φ) (h:JI P n X b (i+k) m K Q ((p,.bool (decide g&&x))::E) L Φ)
  (f:E.lookup t=some (.bool (decide g)):=by rfl) (c:A4d P n b k i ((t,.bool false)::E) [(p,.bool false)]=some [(p,.bool false)]:=by kernel_rfl):JI P n X b i (k+m) K Q E L Φ:=F3s k m t p x f c (fun e=>d e (of_decide_eq_true e)) h
theorem zir {b:Array Oper} {i:Nat} (k m t p:Nat) {g:Prop} [Decidable g] (x:Bool) (d:decide g=false→¬ g→JI P n X b i k (fun a w=>St n X ((p,.bool x)::E) L Φ a w) Q ((t,.bool false)::E) L Φ) (h:JI P n X b (i+k) m K Q ((p,.bool (decide g||x))::E) L Φ)
  (f:E.lookup t=some (.bool (decide g)):=by rfl) (c:A4d P n b k i ((t,.bool true)::E) [(p,.bool true)]=some [(p,.bool true)]:=by kernel_rfl):JI P n X b i (k+m) K Q E L Φ:=ior k m t p x f c (fun e=>d e (of_decide_eq_false e)) h
theorem zdd {b:Array Oper} {i:Nat} (k m t p:Nat) {g:Prop} [Decidable g] (x:Bool) (d:decide g=true→g→JD P n X b i k (fun a _=>a.tmps.size=n∧a.defers=X.marks∧Has a ((p,.bool x)::E)) ((t,.bool true)::E) L Φ) (h:JD P n X b (i+k) m K ((p,.bool (decide g&&x))::E) L Φ)
  (f:E.lookup t=some (.bool (decide g)):=by rfl) (c:A4d P n b k i ((t,.bool false)::E) [(p,.bool false)]=some [(p,.bool false)]:=by kernel_rfl):JD P n X b i (k+m) K E L Φ:=F4m k m t p x f c (fun e=>d e (of_decide_eq_true e)) h
theorem zdr {b:Array Oper} {i:Nat} (k m t p:Nat) {g:Prop} [Decidable g] (x:Bool) (d:decide g=false→¬ g→JD P n X b i k (fun a _=>a.tmps.size=n∧a.defers=X.marks∧Has a ((p,.bool x)::E)) ((t,.bool false)::E) L Φ) (h:JD P n X b (i+k) m K ((p,.bool (decide g||x))::E) L Φ)
  (f:E.lookup t=some (.bool (decide g)):=by rfl) (c:A4d P n b k i ((t,.bool true)::E) [(p,.bool true)]=some [(p,.bool true)]:=by kernel_rfl):JD P n X b i (k+m) K E L Φ:=dor k m t p x f c (fun e=>d e (of_decide_eq_false e)) h
theorem zco {f:FuncId} {a:Func} {c:Code} {args:List Value} {L0:Own} {Φ0:List Pers} {α:Type} {val:α→Value} {L1:α→Own} {Φ1:α→List Pers} (e:P.funcs[f]?=some a) (E0:bX)
  (h:∀ X:Cx,X.M=L0.map Prod.fst→X.rho=none→X.D=[]→J P n X c (D3u P X a α val L1 Φ1) E0 L0 Φ0) (g:a.body=some c:=by rfl) (i:a.ntmps=n:=by rfl) (hE:S6 ((List.range args.length).zip args) E0:=by repeat' first|exact trivial|refine ⟨rfl,?_⟩)
  (b : (a.name == "runtime.NumGoroutine") = false := by kernel_rfl) (d : Nat.ble args.length n = true := by rfl) : cI P f args L0 Φ0 α val L1 Φ1 := D8q e g b i d E0 hE h
abbrev zq {k:Nat} (q:Option Addr) (c:Nat) (b:k≤c:=by first|omega|(simp only [List.length_take,List.length_drop,List.length_append,List.length_cons,List.length_nil,List.length_set,List.length_map];omega)|(simp<;>omega)|decide) (a:k≤9223372036854775807:=by first|omega|(simp only [List.length_take,List.length_drop,List.length_append,List.length_cons,List.length_nil,List.length_set,List.length_map];omega)|(simp<;>omega)|decide):{t:Option Addr×Nat // k≤t.2∧k≤9223372036854775807}:=⟨(q,c),b,a⟩
end
section
variable {P:Program} {n:Nat} {X:Cx} {K:Act→World→Prop} {Q:Exit→Act→World→Prop} {E E':bX} {L L':Own} {Φ Φ':List Pers}
theorem A4v {c:Code} {β1:Type} (F:β1→Prop×bX×Own×List Pers×Nat) (b:β1) (e:(F b).1) (f:List.Sublist (F b).2.2.1 L) (hΦ:A9 Φ (F b).2.2.2.1) (h:∀ b,(F b).1→J P n X c (Exit.then (fun a w=>∃ d,(F d).1∧(F d).2.2.2.2<(F b).2.2.2.2∧St n X (F d).2.1 (F d).2.2.1 (F d).2.2.2.1 a w) Q) (F b).2.1 (F b).2.2.1 (F b).2.2.2.1) (hE:S6 E (F b).2.1:=by repeat' first|exact trivial|refine ⟨rfl,?_⟩|refine ⟨by first|rfl|(simp only [List.length_set,List.length_append,List.length_cons,List.length_nil];rfl)|(simp;done)|(simp;omega),?_⟩):J P n X (.loop c) Q E L Φ :=
 JL1 (fun b=>(F b).1) (fun b=>(F b).2.1) (fun b=>(F b).2.2.1) (fun b=>(F b).2.2.2.1) (fun b=>(F b).2.2.2.2) b e hE f hΦ h
theorem A0d {β1:Type} {F:β1→Prop×bX×Own×List Pers×Nat} {z1:β1} (b:β1) (e:(F b).1) (hμ:(F b).2.2.2.2<(F z1).2.2.2.2) (f:List.Sublist (F b).2.2.1 L) (hΦ:A9 Φ (F b).2.2.2.1) (hE:S6 E (F b).2.1:=by repeat' first|exact trivial|refine ⟨rfl,?_⟩|refine ⟨by first|rfl|(simp only [List.length_set,List.length_append,List.length_cons,List.length_nil];rfl)|(simp;done)|(simp;omega),?_⟩):JQ n X (fun a w=>∃ c,(F c).1∧(F c).2.2.2.2<(F z1).2.2.2.2∧St n X (F c).2.1 (F c).2.2.1 (F c).2.2.2.1 a w) E L Φ :=
 fun _ _ d=>⟨b,e,hμ,d.size,d.defers,d.has.weaken (S3 hE),(d.world.sub f).foll hΦ⟩
theorem A9c {x y:Code} {β1:Type} (F:β1→Prop×bX×Own×List Pers) (c:J P n X x (Exit.then (fun a w=>∃ b,(F b).1∧St n X (F b).2.1 (F b).2.2.1 (F b).2.2.2 a w) Q) E L Φ) (d:∀ b,(F b).1→J P n X y Q (F b).2.1 (F b).2.2.1 (F b).2.2.2):J P n X (.seq x y) Q E L Φ :=
 JS1 (fun b=>(F b).1) (fun b=>(F b).2.1) (fun b=>(F b).2.2.1) (fun b=>(F b).2.2.2) c d
theorem X5 {β1:Type} {F:β1→Prop×bX×Own×List Pers} (b:β1) (e:(F b).1) (f:List.Sublist (F b).2.2.1 L) (hΦ:A9 Φ (F b).2.2.2) (hE:S6 E (F b).2.1:=by repeat' first|exact trivial|refine ⟨rfl,?_⟩|refine ⟨by first|rfl|(simp only [List.length_set,List.length_append,List.length_cons,List.length_nil];rfl)|(simp;done)|(simp;omega),?_⟩):JQ n X (fun a w=>∃ d,(F d).1∧St n X (F d).2.1 (F d).2.2.1 (F d).2.2.2 a w) E L Φ :=
 fun _ _ c=>⟨b,e,c.size,c.defers,c.has.weaken (S3 hE),(c.world.sub f).foll hΦ⟩
theorem F2m {c:Code} {β1 β2 β3 β4:Type} (F:β1→β2→β3→β4→Prop×bX×Own×List Pers×Nat) (d:β1) (e:β2) (b:β3) (f:β4) (l:(F d e b f).1) (m:List.Sublist (F d e b f).2.2.1 L) (hΦ:A9 Φ (F d e b f).2.2.2.1) (h:∀ d e b f,(F d e b f).1→J P n X c (Exit.then (fun a w=>∃ k i j g,(F k i j g).1∧(F k i j g).2.2.2.2<(F d e b f).2.2.2.2∧St n X (F k i j g).2.1 (F k i j g).2.2.1 (F k i j g).2.2.2.1 a w) Q) (F d e b f).2.1 (F d e b f).2.2.1 (F d e b f).2.2.2.1) (hE:S6 E (F d e b f).2.1:=by repeat' first|exact trivial|refine ⟨rfl,?_⟩|refine ⟨by first|rfl|(simp only [List.length_set,List.length_append,List.length_cons,List.length_nil];rfl)|(simp;done)|(simp;omega),?_⟩):J P n X (.loop c) Q E L Φ :=
 JL4 (fun d e b f=>(F d e b f).1) (fun d e b f=>(F d e b f).2.1) (fun d e b f=>(F d e b f).2.2.1) (fun d e b f=>(F d e b f).2.2.2.1) (fun d e b f=>(F d e b f).2.2.2.2) d e b f l hE m hΦ h
theorem F3c {β1 β2 β3 β4:Type} {F:β1→β2→β3→β4→Prop×bX×Own×List Pers×Nat} {z1:β1} {z2:β2} {z3:β3} {z4:β4} (e:β1) (c:β2) (d:β3) (b:β4) (l:(F e c d b).1) (hμ:(F e c d b).2.2.2.2<(F z1 z2 z3 z4).2.2.2.2) (m:List.Sublist (F e c d b).2.2.1 L) (hΦ:A9 Φ (F e c d b).2.2.2.1) (hE:S6 E (F e c d b).2.1:=by repeat' first|exact trivial|refine ⟨rfl,?_⟩|refine ⟨by first|rfl|(simp only [List.length_set,List.length_append,List.length_cons,List.length_nil];rfl)|(simp;done)|(simp;omega),?_⟩):JQ n X (fun a w=>∃ f i g j,(F f i g j).1∧(F f i g j).2.2.2.2<(F z1 z2 z3 z4).2.2.2.2∧St n X (F f i g j).2.1 (F f i g j).2.2.1 (F f i g j).2.2.2.1 a w) E L Φ :=
 fun _ _ k=>⟨e,c,d,b,l,hμ,k.size,k.defers,k.has.weaken (S3 hE),(k.world.sub m).foll hΦ⟩
theorem F3i {x y:Code} {β1 β2 β3 β4:Type} (F:β1→β2→β3→β4→Prop×bX×Own×List Pers) (f:J P n X x (Exit.then (fun a w=>∃ e b c d,(F e b c d).1∧St n X (F e b c d).2.1 (F e b c d).2.2.1 (F e b c d).2.2.2 a w) Q) E L Φ) (g:∀ e b c d,(F e b c d).1→J P n X y Q (F e b c d).2.1 (F e b c d).2.2.1 (F e b c d).2.2.2):J P n X (.seq x y) Q E L Φ :=
 JS4 (fun e b c d=>(F e b c d).1) (fun e b c d=>(F e b c d).2.1) (fun e b c d=>(F e b c d).2.2.1) (fun e b c d=>(F e b c d).2.2.2) f g
theorem E7f {β1 β2 β3 β4:Type} {F:β1→β2→β3→β4→Prop×bX×Own×List Pers} (e:β1) (c:β2) (d:β3) (b:β4) (l:(F e c d b).1) (m:List.Sublist (F e c d b).2.2.1 L) (hΦ:A9 Φ (F e c d b).2.2.2) (hE:S6 E (F e c d b).2.1:=by repeat' first|exact trivial|refine ⟨rfl,?_⟩|refine ⟨by first|rfl|(simp only [List.length_set,List.length_append,List.length_cons,List.length_nil];rfl)|(simp;done)|(simp;omega),?_⟩):JQ n X (fun a w=>∃ j f g k,(F j f g k).1∧St n X (F j f g k).2.1 (F j f g k).2.2.1 (F j f g k).2.2.2 a w) E L Φ :=
 fun _ _ i=>⟨e,c,d,b,l,i.size,i.defers,i.has.weaken (S3 hE),(i.world.sub m).foll hΦ⟩
theorem F3q {c:Code} {β1 β2 β3 β4 β5:Type} (F:β1→β2→β3→β4→β5→Prop×bX×Own×List Pers×Nat) (f:β1) (e:β2) (d:β3) (g:β4) (b:β5) (o:(F f e d g b).1) (p:List.Sublist (F f e d g b).2.2.1 L) (hΦ:A9 Φ (F f e d g b).2.2.2.1) (h:∀ f e d g b,(F f e d g b).1→J P n X c (Exit.then (fun a w=>∃ m k l j i,(F m k l j i).1∧(F m k l j i).2.2.2.2<(F f e d g b).2.2.2.2∧St n X (F m k l j i).2.1 (F m k l j i).2.2.1 (F m k l j i).2.2.2.1 a w) Q) (F f e d g b).2.1 (F f e d g b).2.2.1 (F f e d g b).2.2.2.1) (hE:S6 E (F f e d g b).2.1:=by repeat' first|exact trivial|refine ⟨rfl,?_⟩|refine ⟨by first|rfl|(simp only [List.length_set,List.length_append,List.length_cons,List.length_nil];rfl)|(simp;done)|(simp;omega),?_⟩):J P n X (.loop c) Q E L Φ :=
 JL5 (fun f e d g b=>(F f e d g b).1) (fun f e d g b=>(F f e d g b).2.1) (fun f e d g b=>(F f e d g b).2.2.1) (fun f e d g b=>(F f e d g b).2.2.2.1) (fun f e d g b=>(F f e d g b).2.2.2.2) f e d g b o hE p hΦ h
theorem F4r {β1 β2 β3 β4 β5:Type} {F:β1→β2→β3→β4→β5→Prop×bX×Own×List Pers×Nat} {z1:β1} {z2:β2} {z3:β3} {z4:β4} {z5:β5} (f:β1) (d:β2) (e:β3) (b:β4) (c:β5) (o:(F f d e b c).1) (hμ:(F f d e b c).2.2.2.2<(F z1 z2 z3 z4 z5).2.2.2.2) (p:List.Sublist (F f d e b c).2.2.1 L) (hΦ:A9 Φ (F f d e b c).2.2.2.1) (hE:S6 E (F f d e b c).2.1:=by repeat' first|exact trivial|refine ⟨rfl,?_⟩|refine ⟨by first|rfl|(simp only [List.length_set,List.length_append,List.length_cons,List.length_nil];rfl)|(simp;done)|(simp;omega),?_⟩):JQ n X (fun a w=>∃ j l k i g,(F j l k i g).1∧(F j l k i g).2.2.2.2<(F z1 z2 z3 z4 z5).2.2.2.2∧St n X (F j l k i g).2.1 (F j l k i g).2.2.1 (F j l k i g).2.2.2.1 a w) E L Φ :=
 fun _ _ m=>⟨f,d,e,b,c,o,hμ,m.size,m.defers,m.has.weaken (S3 hE),(m.world.sub p).foll hΦ⟩
theorem F5p {c:Code} {β1 β2 β3 β4 β5 β6 β7:Type} (F:β1→β2→β3→β4→β5→β6→β7→Prop×bX×Own×List Pers×Nat) (f:β1) (j:β2) (g:β3) (e:β4) (b:β5) (d:β6) (i:β7) (s:(F f j g e b d i).1) (t:List.Sublist (F f j g e b d i).2.2.1 L) (hΦ:A9 Φ (F f j g e b d i).2.2.2.1) (h:∀ f j g e b d i,(F f j g e b d i).1→J P n X c (Exit.then (fun a w=>∃ p o q k m l r,(F p o q k m l r).1∧(F p o q k m l r).2.2.2.2<(F f j g e b d i).2.2.2.2∧St n X (F p o q k m l r).2.1 (F p o q k m l r).2.2.1 (F p o q k m l r).2.2.2.1 a w) Q) (F f j g e b d i).2.1 (F f j g e b d i).2.2.1 (F f j g e b d i).2.2.2.1) (hE:S6 E (F f j g e b d i).2.1:=by repeat' first|exact trivial|refine ⟨rfl,?_⟩|refine ⟨by first|rfl|(simp only [List.length_set,List.length_append,List.length_cons,List.length_nil];rfl)|(simp;done)|(simp;omega),?_⟩):J P n X (.loop c) Q E L Φ :=
 JL7 (fun f j g e b d i=>(F f j g e b d i).1) (fun f j g e b d i=>(F f j g e b d i).2.1) (fun f j g e b d i=>(F f j g e b d i).2.2.1) (fun f j g e b d i=>(F f j g e b d i).2.2.2.1) (fun f j g e b d i=>(F f j g e b d i).2.2.2.2) f j g e b d i s hE t hΦ h
theorem F5r {β1 β2 β3 β4 β5 β6 β7:Type} {F:β1→β2→β3→β4→β5→β6→β7→Prop×bX×Own×List Pers×Nat} {z1:β1} {z2:β2} {z3:β3} {z4:β4} {z5:β5} {z6:β6} {z7:β7} (g:β1) (e:β2) (f:β3) (b:β4) (d:β5) (c:β6) (i:β7) (s:(F g e f b d c i).1) (hμ:(F g e f b d c i).2.2.2.2<(F z1 z2 z3 z4 z5 z6 z7).2.2.2.2) (t:List.Sublist (F g e f b d c i).2.2.1 L) (hΦ:A9 Φ (F g e f b d c i).2.2.2.1) (hE:S6 E (F g e f b d c i).2.1:=by repeat' first|exact trivial|refine ⟨rfl,?_⟩|refine ⟨by first|rfl|(simp only [List.length_set,List.length_append,List.length_cons,List.length_nil];rfl)|(simp;done)|(simp;omega),?_⟩):JQ n X (fun a w=>∃ o q p m j k l,(F o q p m j k l).1∧(F o q p m j k l).2.2.2.2<(F z1 z2 z3 z4 z5 z6 z7).2.2.2.2∧St n X (F o q p m j k l).2.1 (F o q p m j k l).2.2.1 (F o q p m j k l).2.2.2.1 a w) E L Φ :=
 fun _ _ r=>⟨g,e,f,b,d,c,i,s,hμ,r.size,r.defers,r.has.weaken (S3 hE),(r.world.sub t).foll hΦ⟩
theorem zst {o:Oper} {T U:TypeId} {x y:Operand} {a b:List UInt8} (d:o.op=.binOp .add T x y U) (c:ev E x=some (.string (bs a))) (e:ev E y=some (.string (bs b))) (h:a.length+b.length≤9223372036854775807:=by first|omega|(simp only [List.length_cons,List.length_nil,List.length_append,List.length_take,List.length_drop];omega)):I6 P X o E L Φ (.string (bs (a++b))):=D2s d c e h
end
def C9f (P:Program) (gf:FuncId) (a:List Value) (L1:Own) (Φ0:List Pers) {β:Type} (enc:β→Value) (xs:List β):Prop :=
 HasBody P gf∧∀ (l:Nat) (w:World) (h:Hp) (I:List β→Own→List Pers→Prop) (Ix:Own→List Pers→Prop) (L:Own) (Φ:List Pers),I xs L Φ→(∀ q ∈ Φ0,q.p h)→(∀ q ∈ Φ,q.p h)→h.sub w→A2i (L1++L) h w →
  (∀ x rest L Φ,I (x::rest) L Φ→B9v P l (enc x) L Φ fun b L' Φ'=>if b then I rest L' Φ' else Ix L' Φ') →
  Calls P gf (#[.func (.yield l) #[] #[]]++a.toArray) w fun e w'=>(∃ v,e=.returned v)∧∃ L' Φ',(I [] L' Φ'∨Ix L' Φ')∧cC (cx w h ((L1++L).map Prod.fst)) L' Φ' w'
theorem cI.lend {P:Program} {f:FuncId} {args:List Value} {L0:Own} {Φ0:List Pers} {α:Type} {val:α→Value} {L1:α→Own} {β:Type} {c:β→List Value} {T sz:Nat} {r:VR} {xs:List β} (y:bR sz xs.length r) (p:cI P f args L0 (sl c (va r.q) xs::Φ0) α val L1 (fun _=>[])) :
  cI P f args (vo c T r xs++L0) Φ0 α val (fun x=>vo c T r xs++L1 x) (fun _=>[]):=by
 refine ⟨p.1,fun w h hΦ hs ho=>?_⟩
 unfold vo at ho ⊢
 cases hq:r.q with
 | none =>
  rw [hq] at ho
  unfold bR at y
  rw [hq] at y
  have hx:xs=[]:=List.length_eq_zero_iff.1 y.1
  refine (p.2 w h (fun q l=>?_) hs ho)
  rcases List.mem_cons.1 l with rfl | l
  ·rw [hq,hx];rfl
  ·exact hΦ q l
 | some b =>
  rw [hq] at ho
  simp only [List.cons_append,List.nil_append] at ho ⊢
  obtain ⟨o,hbo⟩:∃ o,bx b (xs.flatMap c++r.j) T=(b,o):=⟨_,rfl⟩
  have a2:o=.cells (xs.flatMap c++r.j).toArray T (0,0):=(Prod.mk.inj hbo).2.symm
  rw [hbo] at ho ⊢
  obtain ⟨a1,z⟩:=ho.1 (b,o) (List.mem_cons_self ..)
  simp only at a1 z
  have t:=ho.2
  rw [List.map_cons,List.nodup_cons] at t
  have a3:h.le (fun i=>if i=b then some o else h i):=fun i u e=>by
   have:i≠b:=fun e'=>by rw [e',z] at e;cases e
   simp only [if_neg this];exact e
  refine (p.2 w (fun i=>if i=b then some o else h i) (fun q l=>?_) (fun i u e=>?_) ⟨fun e g=>⟨(ho.1 e (List.mem_cons_of_mem _ g)).1,?_⟩,t.2⟩).mono fun e w' hx=>?_
  ·rcases List.mem_cons.1 l with rfl | l
   ·rw [hq]
    refine .inr ⟨rfl,_,_,_,show (if b=b then some o else h b)=_ by rw [if_pos rfl,a2],fun j v hj=>?_⟩
    simp only [Nat.zero_add,List.getElem?_toArray]
    rw [List.getElem?_append_left (List.getElem?_eq_some_iff.1 hj).1];exact hj
   ·exact q.mono a3 (hΦ q l)
  ·simp only at e
   by_cases s:i=b
   ·rw [if_pos s] at e;rw [s,a1,e]
   ·rw [if_neg s] at e;exact hs i u e
  ·have:e.1≠b:=fun e'=>t.1 (List.mem_map.2 ⟨e,g,e'⟩)
   simp only [if_neg this];exact (ho.1 e (List.mem_cons_of_mem _ g)).2
  ·obtain ⟨x,rfl,h2,a⟩:=hx
   refine ⟨x,rfl,⟨(fun i=>if i=b then none else h2 i),?_⟩⟩
   refine ⟨fun q l=>(by cases l),fun i u e=>?_,fun i u e=>?_,fun i s=>?_,⟨fun e g=>?_,?_⟩,fun e g=>?_,⟨a.kept.os,a.kept.tape,a.kept.output,a.kept.size,fun k hk l=>a.kept.block k hk (fun a5=>l (List.mem_cons_of_mem _ a5))⟩,fun d hd=>(by cases hd)⟩
   ·skip
    by_cases s:i=b
    ·rw [if_pos s] at e;cases e
    ·rw [if_neg s] at e;exact a.sub i u e
   ·have:i≠b:=fun e'=>by
     have e2:h i=some u:=e
     rw [e',z] at e2;cases e2
    simp only [if_neg this]
    exact a.le i u (by show (if i=b then some o else h i)=some u;rw [if_neg this];exact e)
   ·skip
    by_cases hb:i=b
    ·rw [if_pos hb] at s;exact absurd rfl s
    ·rw [if_neg hb] at s
     rcases a.dom i s with n | n
     ·left
      intro e
      apply n
      show (if i=b then some o else h i)=none
      rw [if_neg hb];exact e
     ·right
      rcases n with n | n
      ·exact .inl (List.mem_cons_of_mem _ n)
      ·exact .inr n
   ·have m:h2 b=some o:=a.le b o (by show (if b=b then some o else h b)=some o;rw [if_pos rfl])
    rcases List.mem_cons.1 g with rfl | g
    ·exact ⟨a.sub b o m,by simp⟩
    ·refine ⟨(a.own.1 e g).1,?_⟩
     by_cases hb:e.1=b
     ·simp [hb]
     ·simp only [if_neg hb];exact (a.own.1 e g).2
   ·rw [List.map_cons,List.nodup_cons]
    refine ⟨fun l=>?_,a.own.2⟩
    obtain ⟨e,g,hE⟩:=List.mem_map.1 l
    have m:h2 b=some o:=a.le b o (by show (if b=b then some o else h b)=some o;rw [if_pos rfl])
    have:=(a.own.1 e g).2
    simp only at hE
    rw [hE,m] at this;cases this
   ·rcases List.mem_cons.1 g with rfl | g
    ·exact .inl (List.mem_cons_self ..)
    ·rcases a.may e g with n | n
     ·exact .inl (List.mem_cons_of_mem _ n)
     ·exact .inr n
section
variable {P:Program} {n:Nat} {X:Cx} {K:Act→World→Prop} {Q:Exit→Act→World→Prop} {E E':bX} {L L':Own} {Φ Φ':List Pers}
theorem Tri.own {o:Oper} {α:Type} {val:α→Value} {L1:α→Own} {Φ1:α→List Pers} (h:Tri P n X o E L Φ α val L1 Φ1) (L':α→Own) (a:∀ x,L1 x=L' x):Tri P n X o E L Φ α val L' Φ1:=by
 obtain rfl:L1=L':=funext a
 exact h
theorem E0y {gf:FuncId} {g:Func} {c:Code} {a:List Value} {Φ0:List Pers} {β:Type} {enc:β→Value} {xs:List β} (L1:Own)
  (o : P.funcs[gf]? = some g) (k : g.body = some c) (m : (g.name == "runtime.NumGoroutine") = false) (r : g.ntmps = n) (j : Nat.ble (a.length + 1) n = true) (E0 : Nat → bX) (hE : ∀ l, S6 ((List.range (a.length + 1)).zip (.func (.yield l) #[] #[] :: a)) (E0 l))
  (h:∀ (X:Cx) (l:Nat) (I:List β→Own→List Pers→Prop) (Ix:Own→List Pers→Prop) (L:Own) (Φ:List Pers),X.M=(L1++L).map Prod.fst→X.rho=none→X.D=[]→I xs L Φ →
   (∀ x rest L Φ,I (x::rest) L Φ→B9v P l (enc x) L Φ fun b L' Φ'=>if b then I rest L' Φ' else Ix L' Φ')→J P n X c (D7h P X g fun L' Φ'=>I [] L' Φ'∨Ix L' Φ') (E0 l) (L1++(L++[])) (Φ0++Φ)):C9f P gf a L1 Φ0 enc xs:=by
 refine ⟨⟨by simp [o,k,m]⟩,fun l w p I Ix L Φ hI hΦ0 hΦ hs ho hy=>?_⟩
 have f:(#[.func (.yield l) #[] #[]]++a.toArray:Array Value)=(Value.func (.yield l) #[] #[]::a).toArray:=by simp
 rw [f]
 simp only [List.append_nil] at h
 refine (callsIn_wide (n:=0)).1 (callsIn_of_wp_marks (F:=Fence.wide) o k trivial (h (cx w p ((L1++L).map Prod.fst)) l I Ix L Φ rfl rfl rfl hI hy _ w ⟨?_,rfl,?_,p,⟨?_,hs,Hp.le_refl p,fun b k=>.inl k,ho,fun e u=>.inl (List.mem_map_of_mem u),KeptBut.refl _ w,fun d t=>(by cases t)⟩⟩))
 ·have s:a.length+1≤n:=Nat.le_of_ble_eq_true j
  simp [r];omega
 ·rw [r]
  exact C0i (args:=Value.func (.yield l) #[] #[]::a) j (hE l)
 ·intro q i
  rcases List.mem_append.1 i with i | i
  ·exact hΦ0 q i
  ·exact hΦ q i
theorem E4r {g:Operand} {p:Nat} {ps:Array Tmp} {assign body:Code} {gf:FuncId} {lb:List Value} {Φ0:List Pers} {β:Type} {enc:β→Value} {xs:List β}
  (aj:X.rho=none) (hg:ev E g=some (.func (.func gf) #[] lb.toArray)) {L1:Own} (ao:C9f P gf lb L1 Φ0 enc xs) (hΦ0:A9 Φ Φ0) (b2:ps=#[p]) (b4:X6 n (some p)=true)
  {σ:Type} (I:List β→σ→Prop) (Jx:Code→σ→Prop) (Lk:σ→Own) (Φk:σ→List Pers) (s0:σ) (h0:I xs s0) (hL:(Lk s0++L1).Sublist L) (hΦ:A9 Φ (Φk s0))
  (a7:∀ x rest s,I (x::rest) s→∀ (Y Y':Cx) (K:Act→World→Prop),Y.rho.isSome=true →
   (∀ E L Φ,J P n Y' body (RP Y' I Jx Lk Φk rest) E L Φ→JQ n Y K E L Φ)→J P n Y assign (Exit.then K (fun _ _ _=>False)) (bX.put E (some p) (enc x)) (Lk s) (Φk s))
  (a9:∀ d s,d ∉ X.D.map Prod.fst→I [] s→JQ n (X.wd ((d,.deferred (some []))::X.D)) (Q .normal) E (Lk s) (Φk s))
  (ai:∀ d c s,d ∉ X.D.map Prod.fst→Jx c s→J P n (X.wd ((d,.deferred (some []))::X.D)) c Q E (Lk s) (Φk s)):J P n X (.rangeFunc g ps assign body) Q E L Φ:=by
 intro a w hs
 subst b2
 rw [aj]
 refine wpIn_rangeFunc ?_
 intro fn _
 obtain ⟨f,hrec⟩:∃ f:LoopState→Option Code→Loop,f=fun u y=>{state:=u,pending:=y,fn,tmps:=a.tmps,params:=#[p],assign,body,defers:=w.heap.size}:=⟨_,rfl⟩
 have he:=run_enterLoop_outer (P:=P) (w:=w) fn a.tmps #[p] assign body
 rw [show ({state:=.ready,pending:=none,fn:=fn,tmps:=a.tmps,params:=#[p],assign:=assign,body:=body,defers:=w.heap.size}:Loop)=f .ready none by rw [hrec]] at he
 obtain ⟨w1,hw1⟩:∃ w1,(w.alloc (.deferred (some []))).alloc (.loop (f .ready none))=w1:=⟨_,rfl⟩
 rw [hw1] at he
 refine ⟨w.heap.size+1,[C1t w.heap.size],w1,{target:=.fn (.func gf) lb.toArray,args:=#[.func (.yield (w.heap.size+1)) #[] #[]]},w1,gf,
  #[.func (.yield (w.heap.size+1)) #[] #[]]++lb.toArray,w1,he,?_,fun _ _=>trivial,?_,A8f,?_⟩
 ·simp only [resolve,C3 hs.has hg]
  simp [go_sem]
 ·simp [invoke,A1y ao.1]
 ·-- the caller's state,the two blocks laid
  have ad:cC X ((w.heap.size+1,.loop (f .ready none))::(w.heap.size,.deferred (some []))::(Lk s0++L1)) Φ w1:=by
   have h1:=(hs.world.sub hL).alloc (.deferred (some []))
   have h2:=h1.alloc (.loop (f .ready none))
   rw [World.size_alloc,hw1] at h2
   exact h2
  have av:w.heap.size ∉ X.D.map Prod.fst:=fun hm=>by
   obtain ⟨e,ac,hE⟩:=List.mem_map.1 hm
   obtain ⟨q,z⟩:=hs.world
   have:=(Array.getElem?_eq_some_iff.1 (z.res e ac).1).1
   omega
  have al:=ad.perm (L':=L1++((w.heap.size+1,.loop (f .ready none))::(w.heap.size,.deferred (some []))::Lk s0)) (List.perm_append_comm (l₁:=(w.heap.size+1,Obj.loop (f .ready none))::(w.heap.size,Obj.deferred (some []))::Lk s0))
  obtain ⟨q,z⟩:=al
  have bd:w.heap.size+1<w1.heap.size:=(Array.getElem?_eq_some_iff.1 (z.own.1 _ (List.mem_append_right _ (List.mem_cons_self ..))).1).1
  let It:List β→Own→List Pers→Prop:=fun rem L Φ=>∃ s,I rem s∧L=(w.heap.size+1,.loop (f .ready none))::(w.heap.size,.deferred (some []))::Lk s∧Φ=Φk s
  let Itx:Own→List Pers→Prop:=fun L Φ=>∃ c s,Jx c s∧L=(w.heap.size+1,.loop (f .done (some c)))::(w.heap.size,.deferred (some []))::Lk s∧Φ=Φk s
  have ah:=ao.2 (w.heap.size+1) w1 q It Itx _ (Φk s0) ⟨s0,h0,rfl,rfl⟩ (hΦ0 q z.facts) (hΦ q z.facts) z.sub z.own ?_
  ·refine B5v (ah.mono fun e w' hx=>?_)
   obtain ⟨⟨v,rfl⟩,L',Φ',hI,az⟩:=hx
   have ar:=cC.call (L0:=L1++((w.heap.size+1,.loop (f .ready none))::(w.heap.size,.deferred (some []))::Lk s0)) (L2:=[]) z oom az
   rw [List.append_nil] at ar
   have r:∀ (u:LoopState) (y:Option Code) (s:σ),u≠.busy→L'=(w.heap.size+1,.loop (f u y))::(w.heap.size,.deferred (some []))::Lk s→Φ'=Φk s →
     (Instr.endLoop (w.heap.size+1)).run P w'=.ok y (w'.putObj (w.heap.size+1) (.loop {f u y with state:=.exhausted})) ∧
     St n (X.wd ((w.heap.size,.deferred (some []))::X.D)) E (Lk s) (Φk s) {a with defers:=[C1t w.heap.size]++a.defers} (w'.putObj (w.heap.size+1) (.loop {f u y with state:=.exhausted})):=fun u y s ad l hΦ'=>by
    subst l hΦ'
    obtain ⟨q2,hq2⟩:=ar
    have hl:=(hq2.own.1 _ (List.mem_cons_self ..)).1
    simp only at hl
    have i:=run_endLoop (P:=P) hl (by rw [hrec];exact ad)
    rw [hrec] at i ⊢
    refine ⟨i,⟨hs.size,?_,hs.has,?_⟩⟩
    ·show [C1t w.heap.size]++a.defers=_
     rw [hs.defers]
     unfold Cx.marks Cx.wd
     simp only [aj];rfl
    ·have h3:cC X ((w.heap.size,.deferred (some []))::Lk s) (Φk s++Φ) (w'.putObj (w.heap.size+1) (.loop {f u y with state:=.exhausted})):=by
      have h4:=cC.reserve (X:=X) ⟨q2,hq2⟩
      have a5:=hq2.own.2
      have h5:=cC.take (X:=X) (d:=(w.heap.size+1,.loop (f u y))) (ds:=X.D) ?_ (.loop {f u y with state:=.exhausted}) h4
      ·exact h5
      ·intro hm
       obtain ⟨e,ac,hE⟩:=List.mem_map.1 hm
       obtain ⟨q3,hq3⟩:=hs.world
       have:=(Array.getElem?_eq_some_iff.1 (hq3.res e ac).1).1
       simp only at hE;omega
     rw [hrec] at h3
     exact h3.reserve.foll fun p hp q z=>hp q (List.mem_append_left _ z)
   rcases hI with ⟨s,hI,l,hΦ'⟩ | ⟨c,s,hI,l,hΦ'⟩
   ·obtain ⟨i,ab⟩:=r .ready none s oom l hΦ'
    exact ⟨none,_,i,a9 _ s av hI _ _ ab⟩
   ·obtain ⟨i,ab⟩:=r .done (some c) s oom l hΦ'
    have h6:=ai _ c s av hI _ _ ab
    have:(X.wd ((w.heap.size,.deferred (some []))::X.D)).rho=none:=aj
    rw [this] at h6
    exact ⟨some c,_,i,h6⟩
  ·-- one round
   rintro x rest L0 Φ0 ⟨s,hIs,rfl,rfl⟩ wr hr hfr hsr hor
   have hl:=(hor.1 _ (List.mem_cons_self ..)).1
   simp only at hl
   have hy:=run_yield (P:=P) (args:=#[enc x]) hl (by rw [hrec];rfl)
   rw [hrec] at hy
   refine ⟨_,_,assign,body,hy,roundIn_of_wpIn trivial ?_⟩
   have b5:w.heap.size+1≠w.heap.size:=by omega
   let M0:List Nat:=(w.heap.size+1)::w.heap.size::(Lk s).map Prod.fst
   let Y:Cx:=⟨wr,hr,M0,some (w.heap.size+1),[(w.heap.size+1,.loop (f .ready none)),(w.heap.size,.deferred (some []))]⟩
   let Y':Cx:=⟨wr,hr,M0,some (w.heap.size+1),[(w.heap.size+1,.loop {f .ready none with state:=.busy}),(w.heap.size,.deferred (some []))]⟩
   have hb:=a7 x rest s hIs Y Y' (fun a₁ w₁=>∃ w₂,(Instr.beginRound (w.heap.size+1)).run P w₁=.ok () w₂∧body.wpIn (Fence.wide.inRound (w.heap.size+1)) 0 P
    (roundPost P (w.heap.size+1) fun e w'=>∃ b L' Φ',e=.returned (.bool b)∧(if b then It rest L' Φ' else Itx L' Φ')∧cC (cx wr hr M0) L' Φ' w') a₁ w₂) rfl ?_
   ·refine hb _ wr ⟨?_,rfl,?_,hr,⟨hfr,hsr,Hp.le_refl hr,fun b hb=>.inl hb,hor.sub ((List.sublist_cons_self _ _).trans (List.sublist_cons_self _ _)),fun e he=>.inl ?_,KeptBut.refl _ _,fun d hd=>?_⟩⟩
    ·have:a.tmps.size=n:=hs.size
     simp [this]
    ·have:=hs.has.put (d:=p) (by rw [hs.size];simpa [X6,Nat.blt_eq] using b4) (enc x)
     exact fun t v e=>by simpa [Act.put] using this t v e
    ·exact List.mem_cons_of_mem _ (List.mem_cons_of_mem _ (List.mem_map_of_mem he))
    ·have a5:=hor.2
     simp only [List.map_cons,List.nodup_cons,List.mem_cons,not_or] at a5
     simp only [Y,List.mem_cons,List.not_mem_nil,or_false] at hd
     rcases hd with rfl | rfl
     ·exact ⟨hl,(hor.1 _ (List.mem_cons_self ..)).2,fun e he hE=>a5.1.2 (by simp only at hE;rw [← hE];exact List.mem_map_of_mem he),.inr (by simp [Y,M0])⟩
     ·have h1:=hor.1 _ (List.mem_cons_of_mem _ (List.mem_cons_self ..))
      exact ⟨h1.1,h1.2,fun e he hE=>a5.2.1 (by simp only at hE;rw [← hE];exact List.mem_map_of_mem he),.inr (by simp [Y,M0])⟩
   ·-- the record turns to busy;the body;the record turns back
    intro E1 L3 Φ1 hJ a1 w2 hs1
    obtain ⟨q1,hq1⟩:=hs1.world
    have au:=(hq1.res (w.heap.size+1,.loop (f .ready none)) (by simp [Y])).1
    simp only at au
    refine ⟨_,run_beginRound au (by rw [hrec]),?_⟩
    have am:cC Y' L3 Φ1 (w2.putObj (w.heap.size+1) (.loop {f .ready none with state:=.busy})):=by
     have:=cC.reput (X:=Y) (d:=w.heap.size+1) (o:=.loop (f .ready none)) (o':=.loop {f .ready none with state:=.busy}) (ds:=[(w.heap.size,.deferred (some []))]) oom hs1.world
     exact this
    have af:=hJ a1 _ ⟨hs1.size,hs1.defers,hs1.has,am⟩
    refine Code.wpIn_mono (fun e a2 w3 hp=>?_) af
    have ae:∀ (j:Option Code) (k:σ),cC Y' (Lk k) (Φk k) w3 →
      (Instr.endRound (w.heap.size+1) j).run P w3=.ok (.bool j.isNone) (w3.putObj (w.heap.size+1) (.loop (f (if j.isNone then .ready else .done) j))) ∧
      cC (cx wr hr M0) ((w.heap.size+1,.loop (f (if j.isNone then .ready else .done) j))::(w.heap.size,.deferred (some []))::Lk k) (Φk k) (w3.putObj (w.heap.size+1) (.loop (f (if j.isNone then .ready else .done) j))):=fun j k h3=>by
     obtain ⟨q3,hq3⟩:=h3
     have an:=(hq3.res (w.heap.size+1,.loop {f .ready none with state:=.busy}) (by simp [Y'])).1
     simp only at an
     have i:=run_endRound (P:=P) j an
     refine ⟨by rw [hrec] at i ⊢;exact i,?_⟩
     have h4:=cC.reput (X:=Y') (d:=w.heap.size+1) (o:=.loop {f .ready none with state:=.busy}) (o':=.loop (f (if j.isNone then .ready else .done) j)) (ds:=[(w.heap.size,.deferred (some []))]) oom ⟨q3,hq3⟩
     exact cC.unres oom h4
    cases e with
    | normal =>
     obtain ⟨k,m,h3⟩:=hp
     obtain ⟨i,h4⟩:=ae none k h3
     exact ⟨_,_,i,true,_,_,rfl,⟨k,m,rfl,rfl⟩,h4⟩
    | ret =>
     obtain ⟨k,m,h3⟩:=hp
     obtain ⟨i,h4⟩:=ae (some .ret) k h3
     exact ⟨_,_,i,false,_,_,rfl,⟨.ret,k,m,rfl,rfl⟩,h4⟩
    | exit id =>
     obtain ⟨k,m,h3⟩:=hp
     obtain ⟨i,h4⟩:=ae (some (.exit id)) k h3
     exact ⟨_,_,i,false,_,_,rfl,⟨.exit id,k,m,rfl,rfl⟩,h4⟩
    | goto t=>exact hp.elim
    | panic c=>exact hp.elim
    | outgrown=>exact hp.elim
end
section
variable {P:Program} {n:Nat} {X:Cx} {K:Act→World→Prop} {Q:Exit→Act→World→Prop} {E E':bX} {L L':Own} {Φ Φ':List Pers}
theorem C6r {T e sz ty b off dLen dCap sLen sCap TT:Nat} {a:Addr} {w:World} {cs us:List Value} (f:SlTy P T e sz) (k:w.heap[b]?=some (.cells cs.toArray TT (0,0))) (i:us.length=Nat.min sLen dLen * sz) (c:∀ j v,us[j]?=some v→w.cell? (a.add j)=some v)
  (hone:∀ v ∈ us,v.oneCell'=true) (d:off+us.length≤cs.length) :
  (Builtin.copy_ #[T,T] ty #[.slice (some ⟨b,off,none⟩) dLen dCap,.slice (some a) sLen sCap]).run P w=.ok (goInt (Nat.min sLen dLen)) (w.setRow b (Z4 cs us off).toArray):=by
 have h:=run_firstCells_some (P:=P) w sz (Nat.min sLen dLen) a sLen sCap us i c
 have g:=run_storeCells_at P b off TT us 0 cs.toArray w k (by simpa using d) hone
 simp only [Builtin.copy_,Sem.run_bind,run_underlying f.ty,Result.andThen_ok,f.run,Builtin.lenOf]
 simp [h,g,Z4,Builtin.lenOf,run_underlying f.ty,f.run]
theorem C1o {T e sz ty dLen dCap sLen sCap:Nat} {d s:Option Addr} {w:World} (a:SlTy P T e sz) (b:Nat.min sLen dLen=0) :
  (Builtin.copy_ #[T,T] ty #[.slice d dLen dCap,.slice s sLen sCap]).run P w=.ok (goInt 0) w:=by
 have c:∀ (x:Addr),(loadCells x 0).run P w=.ok #[] w:=fun x=>by simpa using run_loadCells_list (P:=P) w x [] oom
 cases d<;>cases s<;>simp [Builtin.copy_,run_underlying a.ty,a.run,Builtin.lenOf,Builtin.firstCells,b,storeCells,c]
theorem B6h {α:Type} {f:α→List Value} {sz:Nat} (a:∀ x,(f x).length=sz) (xs:List α) (k:Nat):(xs.take k).flatMap f=(xs.flatMap f).take (k * sz):=by
 induction xs generalizing k with
 | nil=>simp
 | cons x xs ih =>
  cases k with
  | zero=>simp
  | succ k =>
   rw [List.take_succ_cons,List.flatMap_cons,List.flatMap_cons,ih,Nat.succ_mul,List.take_append,a,Nat.add_sub_cancel,List.take_of_length_le (l:=f x) (by rw [a];omega)]
theorem D3r {α:Type} {f:α→List Value} {sz:Nat} (a:∀ x,(f x).length=sz) (xs:List α) (k:Nat):(xs.drop k).flatMap f=(xs.flatMap f).drop (k * sz):=by
 induction xs generalizing k with
 | nil=>simp
 | cons x xs ih =>
  cases k with
  | zero=>simp
  | succ k =>
   rw [List.drop_succ_cons,List.flatMap_cons,ih,Nat.succ_mul,List.drop_append,a,Nat.add_sub_cancel,List.drop_of_length_le (l:=f x) (by rw [a];omega),List.nil_append]
theorem D7d {α:Type} {f:α→List Value} {sz:Nat} (a:∀ x,(f x).length=sz) (xs ys:List α) (j:List Value) (l:Nat) (h:l+ys.length≤xs.length):Z4 (xs.flatMap f++j) (ys.flatMap f) (l * sz)=(xs.take l++(ys++xs.drop (l+ys.length))).flatMap f++j:=by
 have c:l * sz≤(xs.flatMap f).length:=by rw [G4 a];exact Nat.mul_le_mul_right _ opx
 have b:l * sz+ys.length * sz≤(xs.flatMap f).length:=by rw [G4 a,← Nat.add_mul];exact Nat.mul_le_mul_right _ h
 unfold Z4
 rw [G4 a ys,List.take_append_of_le_length c,List.drop_append_of_le_length b,List.flatMap_append,List.flatMap_append,B6h a,D3r a,Nat.add_mul]
 simp only [List.append_assoc]
theorem cC.vec {T:Nat} {α:Type} {f:α→List Value} {b k:Nat} {j:List Value} {xs ys:List α} {pre post:Own} {w:World} (a:cC X (pre++(vo f T ⟨some b,k,j⟩ xs++post)) Φ w):cC X (pre++(vo f T ⟨some b,k,j⟩ ys++post)) Φ (w.setRow b (ys.flatMap f++j).toArray):=by
 have d:w.heap[b]?=some (.cells (xs.flatMap f++j).toArray T (0,0)):=by
  obtain ⟨p,c⟩:=a
  exact (c.own.1 (bx b (xs.flatMap f++j) T) (List.mem_append_right _ (List.mem_append_left _ (by unfold vo;simp)))).1
 have i:(pre++(vo f T ⟨some b,k,j⟩ xs++post))[pre.length]?=some (bx b (xs.flatMap f++j) T):=by simp [vo]
 have h:=a.set (w':=w.setRow b (ys.flatMap f++j).toArray) i (setRow_heap w b _ _ T (0,0) d) (fun k g=>setRow_other w b k _ g) rfl rfl rfl oom
 have e:(pre++(vo f T ⟨some b,k,j⟩ xs++post)).set pre.length (bx b (ys.flatMap f++j) T)=pre++(vo f T ⟨some b,k,j⟩ ys++post):=by simp [vo]
 rw [← e];exact h
theorem D2w {o:Oper} {c:Call} {T e sz:Nat} {x y:Operand} {α:Type} {f:α→List Value} {r:VR} {xs ys:List α} {q:Option Addr} {m cc:Nat} {pre post:Own} (hT:SlTy P T e sz) (z:∀ x,(f x).length=sz) (a9:∀ x,(f x).all (·.oneCell')=true)
  (ho:o.op=.call c) (hc:c.callee=.builtin .copy) (a7:c.args=#[x,y]) (a8:c.argTypes=#[T,T]) (hx:ev E x=some (vv r xs.length)) (hy:ev E y=some (.slice q m cc)) (hm:m=ys.length) (hL:L=pre++(vo f e r xs++post))
  (hq:S1 Φ (sl f q ys)) (a4:bR sz xs.length r) :
  Tri P n X o E L Φ Unit (fun _=>.int .i64 ((min ys.length xs.length:Nat):Int)) (fun _=>pre++(vo f e r (ys.take xs.length++xs.drop ys.length)++post)) (fun _=>Φ):=by
 subst hm
 intro ac w K Q hs hk
 have t:=hs.world
 rw [hL] at t
 obtain ⟨w',d,hw'⟩:∃ w',(Builtin.copy_ #[T,T] o.type #[vv r xs.length,.slice q ys.length cc]).run P w=.ok (goInt (Nat.min ys.length xs.length)) w'∧cC X (pre++(vo f e r (ys.take xs.length++xs.drop ys.length)++post)) Φ w':=by
  obtain ⟨rq,rk,v⟩:=r
  by_cases h0:Nat.min ys.length xs.length=0
  ·refine ⟨w,by rw [h0];exact C1o hT h0,?_⟩
   have e:ys.take xs.length++xs.drop ys.length=xs:=by
    rcases Nat.eq_zero_or_pos xs.length with s | s
    ·have:=List.eq_nil_of_length_eq_zero s;subst this;simp
    ·have a3:ys.length=0:=by have h1:min ys.length xs.length=0:=h0;omega
     have:=List.eq_nil_of_length_eq_zero a3;subst this;simp
   rw [e];exact t
  ·have a2:¬ min ys.length xs.length=0:=h0
   cases rq with
   | none =>
    have h9:xs.length=0∧rk=0:=a4
    omega
   | some b =>
    obtain ⟨p,hp⟩:=t
    have t:cC X (pre++(vo f e ⟨some b,rk,v⟩ xs++post)) Φ w:=⟨p,hp⟩
    have g:=hq p hp.facts
    cases q with
    | none=>have h9:ys=[]:=g;subst h9;simp at a2
    | some a =>
     have k:A7i p a (ys.flatMap f):=g
     have hg:w.heap[b]?=some (.cells (xs.flatMap f++v).toArray e (0,0)):=(hp.own.1 (bx b (xs.flatMap f++v) e) (List.mem_append_right _ (List.mem_append_left _ (by unfold vo;simp)))).1
     have l:((ys.take xs.length).flatMap f).length=Nat.min ys.length xs.length * sz:=by rw [G4 z,List.length_take,Nat.min_comm]
     have d:=C6r (P:=P) (ty:=o.type) (b:=b) (off:=0) (dLen:=xs.length) (dCap:=rk) (sLen:=ys.length) (sCap:=cc) (a:=a) (w:=w) (cs:=xs.flatMap f++v) (us:=(ys.take xs.length).flatMap f) hT hg l
      (fun j u hj=>k.cell hp.sub (by
       rw [B6h z,List.getElem?_take] at hj
       split at hj
       ·exact hj
       ·cases hj)) (B9z a9 _) (by rw [l,List.length_append,G4 z];have:Nat.min ys.length xs.length≤xs.length:=Nat.min_le_right _ _;have:=Nat.mul_le_mul_right sz this;omega)
     have i:=D7d z xs (ys.take xs.length) v 0 (by rw [List.length_take];omega)
     rw [Nat.zero_mul,List.take_zero,List.nil_append,Nat.zero_add] at i
     have hd:xs.drop (ys.take xs.length).length=xs.drop ys.length:=by
      rw [List.length_take]
      by_cases h:ys.length≤xs.length
      ·rw [Nat.min_eq_right h]
      ·rw [Nat.min_eq_left opx,List.drop_of_length_le (Nat.le_refl _),List.drop_of_length_le opx]
     rw [hd] at i
     rw [i] at d
     exact ⟨_,d,t.vec (ys:=ys.take xs.length++xs.drop ys.length)⟩
 refine A8j (by rw [ho];rfl) ?_
 unfold Oper.wp
 rw [show (execOp ac.eval o).run P w=.ok (.value (goInt (Nat.min ys.length xs.length))) w' by
  simp [execOp,ho,resolve,hc,a7,a8,C3 hs.has hx,C3 hs.has hy,invoke,builtin,d]]
 exact hk () w' hw'
theorem E3e {o:Oper} {c:Call} {T e sz:Nat} {x y:Operand} {α:Type} {f:α→List Value} {r:VR} {xs:List α} {l h dn dk:Nat} {pre post:Own} (hT:SlTy P T e sz) (hf:∀ x,(f x).length=sz) (a7:∀ x,(f x).all (·.oneCell')=true)
  (ho:o.op=.call c) (hc:c.callee=.builtin .copy) (a5:c.args=#[x,y]) (a6:c.argTypes=#[T,T]) (hx:ev E x=some (.slice (A9p (va r.q) l sz r.k) dn dk)) (hy:ev E y=some (.slice (va r.q) h r.k)) (hL:L=pre++(vo f e r xs++post)) (v:bR sz xs.length r) (h1:l+dn=xs.length) (h2:h≤xs.length) :
  Tri P n X o E L Φ Unit (fun _=>.int .i64 ((min h dn:Nat):Int)) (fun _=>pre++(vo f e r (xs.take l++(xs.take (min h dn)++xs.drop (l+min h dn)))++post)) (fun _=>Φ):=by
 intro ac w K Q hs hk
 have t:=hs.world
 rw [hL] at t
 obtain ⟨w',d,hw'⟩:∃ w',(Builtin.copy_ #[T,T] o.type #[.slice (A9p (va r.q) l sz r.k) dn dk,.slice (va r.q) h r.k]).run P w=.ok (goInt (Nat.min h dn)) w'∧cC X (pre++(vo f e r (xs.take l++((xs.take (Nat.min h dn))++xs.drop (l+Nat.min h dn)))++post)) Φ w':=by
  obtain ⟨rq,m,s⟩:=r
  by_cases h0:Nat.min h dn=0
  ·refine ⟨w,by rw [h0];exact C1o hT h0,?_⟩
   rw [h0,List.take_zero,List.nil_append,Nat.add_zero,List.take_append_drop];exact t
  ·have af:¬ min h dn=0:=h0
   cases rq with
   | none =>
    have h9:xs.length=0∧m=0:=v
    omega
   | some b =>
    obtain ⟨p,hp⟩:=t
    have t:cC X (pre++(vo f e ⟨some b,m,s⟩ xs++post)) Φ w:=⟨p,hp⟩
    have ab:xs.length * sz+s.length=m * sz∧xs.length≤m∧m≤maxLen:=v
    have z:A9p (va (some b)) l sz m=some ⟨b,l * sz,none⟩:=by
     unfold A9p
     rw [if_neg opx]
     simp [va,A1h]
    have hg:w.heap[b]?=some (.cells (xs.flatMap f++s).toArray e (0,0)):=(hp.own.1 (bx b (xs.flatMap f++s) e) (List.mem_append_right _ (List.mem_append_left _ (by unfold vo;simp)))).1
    have a8:Nat.min h dn≤h:=Nat.min_le_left _ _
    have a3:Nat.min h dn≤dn:=Nat.min_le_right _ _
    have i:((xs.take (Nat.min h dn)).flatMap f).length=Nat.min h dn * sz:=by rw [G4 hf,List.length_take,Nat.min_eq_left opx]
    have d:=C6r (P:=P) (ty:=o.type) (b:=b) (off:=l * sz) (dLen:=dn) (dCap:=dk) (sLen:=h) (sCap:=m) (a:=⟨b,0,none⟩) (w:=w) (cs:=xs.flatMap f++s) (us:=(xs.take (Nat.min h dn)).flatMap f) hT hg i
     (fun j u hj=>by
      rw [A1h]
      simp only [World.cell?,hg,Nat.zero_add]
      rw [B6h hf,List.getElem?_take] at hj
      split at hj
      ·rw [List.getElem?_toArray,List.getElem?_append_left (List.getElem?_eq_some_iff.1 hj).1];exact hj
      ·cases hj) (B9z a7 _) (by rw [i,List.length_append,G4 hf,← Nat.add_mul];have:=Nat.mul_le_mul_right sz (show l+Nat.min h dn≤xs.length by omega);omega)
    have g:=D7d hf xs (xs.take (Nat.min h dn)) s l (by rw [List.length_take,Nat.min_eq_left opx];omega)
    rw [List.length_take,Nat.min_eq_left (by omega:Nat.min h dn≤xs.length)] at g
    rw [g] at d
    rw [z]
    exact ⟨_,d,t.vec (ys:=xs.take l++((xs.take (Nat.min h dn))++xs.drop (l+Nat.min h dn)))⟩
 refine A8j (by rw [ho];rfl) ?_
 unfold Oper.wp
 rw [show (execOp ac.eval o).run P w=.ok (.value (goInt (Nat.min h dn))) w' by
  simp [execOp,ho,resolve,hc,a5,a6,C3 hs.has hx,C3 hs.has hy,invoke,builtin,d]]
 exact hk () w' hw'
end
structure Rwq where
 s:Slc
 b:Bool
def G2 (r:Rwq):List Value:=[.slice r.s.q r.s.n r.s.k,.bool r.b]
section
variable {P:Program} {n:Nat} {X:Cx} {K:Act→World→Prop} {Q:Exit→Act→World→Prop} {E E':bX} {L L':Own} {Φ Φ':List Pers}
end
structure Rwc (α:Type) where
 l:List α
 b:Bool
def E7 {α:Type} (c:α→List Value) (rs:List Rwq) (xss:List (Rwc α)):Pers:=U6 c (rs.map Rwq.s) (xss.map Rwc.l)
def F1 {α:Type} (rs:List Rwq) (xss:List (Rwc α)):Prop:=rs.length=xss.length∧I4 (rs.map Rwq.s) (xss.map Rwc.l)∧rs.map Rwq.b=xss.map Rwc.b
abbrev cF:Rwq:=⟨⟨none,0,0⟩,false⟩
abbrev bS {α:Type}:Rwc α:=⟨[],false⟩
theorem B0w {α β:Type} (f:α→β) (xs:List α) (k:Nat) (d:α):(xs.map f).getD k (f d)=f (xs.getD k d):=by
 simp only [List.getD_eq_getElem?_getD,List.getElem?_map]
 cases xs[k]?<;>rfl
section
variable {P:Program} {n:Nat} {X:Cx} {K:Act→World→Prop} {Q:Exit→Act→World→Prop} {E E':bX} {L L':Own} {Φ Φ':List Pers} {α:Type} {c:α→List Value} {rs rs':List Rwq} {xss xss':List (Rwc α)}
theorem B8c (ok:F1 rs xss) {k:Nat} (h:k<rs.length):(xss.getD k bS).l.length≤(rs.getD k cF).s.k∧(xss.getD k bS).l.length≤9223372036854775807:=by
 have:=B2y ok.2.1 (k:=k) (d:=(⟨none,0,0⟩:Slc)) (by simpa using h)
 rw [← B0w Rwc.l,← B0w Rwq.s];exact this
theorem q_n (ok:F1 rs xss) {k:Nat} (h:k<rs.length):(rs.getD k cF).s.n=(xss.getD k bS).l.length:=by
 have:=B3i ok.2.1 (k:=k) (d:=(⟨none,0,0⟩:Slc)) (by simpa using h)
 rw [show (⟨none,0,0⟩:Slc)=cF.s from rfl,B0w Rwq.s,show ([]:List α)=(bS:Rwc α).l from rfl,B0w Rwc.l] at this
 injection this
theorem E5n (ok:F1 rs xss) {k:Nat} (h:k<rs.length):(Value.slice (rs.getD k cF).s.q (rs.getD k cF).s.n (rs.getD k cF).s.k)=.slice (rs.getD k cF).s.q (xss.getD k bS).l.length (rs.getD k cF).s.k:=by rw [q_n ok h]
theorem F5i (ok:F1 rs xss) (k:Nat):(rs.getD k cF).b=(xss.getD k bS).b:=by
 rw [← B0w Rwq.b,← B0w Rwc.b,ok.2.2]
theorem D6v (ok:F1 rs xss) {k:Nat} (h:k<rs.length):(Value.agg #[.slice (rs.getD k cF).s.q (rs.getD k cF).s.n (rs.getD k cF).s.k,.bool (rs.getD k cF).b])=.agg #[.slice (rs.getD k cF).s.q (xss.getD k bS).l.length (rs.getD k cF).s.k,.bool (xss.getD k bS).b]:=by rw [q_n ok h,F5i ok k]
theorem C7p (ok:F1 rs xss) (j:Nat) (a:Φ[j]?=some (E7 c rs xss)) {k:Nat} (h:k<rs.length):S1 Φ (sl c (rs.getD k cF).s.q (xss.getD k bS).l):=by
 have:=B2s ok.2.1 j a (k:=k) (d:=(⟨none,0,0⟩:Slc)) (by simpa using h)
 rw [← B0w Rwc.l,← B0w Rwq.s];exact this
theorem B7l:S1 Φ (E7 c [] []):=A1a
theorem E6b {r:Rwq} {x:Rwc α} (b:S1 Φ (sl c r.s.q x.l)) (a:S1 Φ (E7 c rs xss)):S1 Φ (E7 c (r::rs) (x::xss)):=A9b b a
theorem E5e (k:Nat) {r:Rwq} {x:Rwc α} (b:S1 Φ (E7 c rs xss)) (a:S1 Φ (sl c r.s.q x.l)):S1 Φ (E7 c (rs.set k r) (xss.set k x)):=by
 unfold E7;rw [List.map_set,List.map_set];exact E7k k b a
theorem E5j {m:Nat}:S1 Φ (E7 c (List.replicate m cF) (List.replicate m bS)):=by
 unfold E7;rw [List.map_replicate,List.map_replicate];exact E4p
theorem F1.none:F1 [] ([]:List (Rwc α)):=⟨rfl,I4.none,rfl⟩
theorem F1.cons {r:Rwq} {x:Rwc α} (d:r.s.n=x.l.length∧r.s.n≤r.s.k∧x.l.length≤9223372036854775807) (c:r.b=x.b) (a:F1 rs xss):F1 (r::rs) (x::xss):=⟨by simp [a.1],I4.cons d a.2.1,by simp [c,a.2.2]⟩
theorem F1.append (b:F1 rs xss) (a:F1 rs' xss'):F1 (rs++rs') (xss++xss'):=⟨by simp [b.1,a.1],by rw [List.map_append,List.map_append];exact I4.append b.2.1 a.2.1,by rw [List.map_append,List.map_append,b.2.2,a.2.2]⟩
theorem F1.set (h:F1 rs xss) (k:Nat) {r:Rwq} {x:Rwc α} (hr:r.s.n=x.l.length∧r.s.n≤r.s.k∧x.l.length≤9223372036854775807) (a:r.b=x.b):F1 (rs.set k r) (xss.set k x):=⟨by simp [h.1],by rw [List.map_set,List.map_set];exact I4.set h.2.1 k hr,by rw [List.map_set,List.map_set,h.2.2,a]⟩
theorem F1.rep (m:Nat):F1 (List.replicate m cF) (List.replicate m (bS:Rwc α)):=⟨by simp,by rw [List.map_replicate,List.map_replicate];exact I4.rep m,by simp⟩
theorem C6d {o:Oper} {T e b l cc:Nat} {x y:Operand} (r:ApTy P T e 2 b) (m:((P.info? e).bind (·.zero)).map (·.cells)=some #[.slice none 0 0,.bool false])
  (h:o.op=.makeSlice T x y) (j:ev E x=some (.int .i64 (l:Int))) (p:ev E y=some (.int .i64 (cc:Int))) (c:l≤cc) (g:cc * b≤140737488355328) (d:cc≤9223372036854775807) :
  Tri P n X o E L Φ {a:VR // bR 2 (List.replicate l (bS:Rwc α)).length a} (fun a=>.slice (va a.1.q) (List.replicate l (bS:Rwc α)).length a.1.k) (fun a=>L++(vo G2 e a.1 (List.replicate l cF)++[])) (fun _=>Φ):=by
 have:=B5u (P:=P) (n:=n) (X:=X) (E:=E) (L:=L) (Φ:=Φ) (f:=G2) cF r m (fun _=>rfl) h j p c g d
 have i:(List.replicate l (bS:Rwc α)).length=(List.replicate l cF).length:=by simp
 rw [i]
 exact this
theorem B5t {t T sz b TT:Nat} {us:List Value} (c:Ty P T sz true) (h:E.lookup t=some (.pointer (some ⟨b,0,none⟩))) (i:Nat) (d:L[i]?=some (bx b us TT)) (a:us.length=sz) :
  C4d P n X (.cell t T) E L Φ (.agg us.toArray):=D4 c h i d (by rw [List.drop_zero,← a,List.take_length]) a
end
def E8s (n:Nat) (a:Array Oper) (T mo:Nat) (b:TypeDesc) (E:bX):Nat→Nat→Nat→List MapEntry→Option (List MapEntry)
 | 0,_,_,es=>some es
 | k+1,i,clk,es=>match C3r n a i E with
  | none=>none
  | some o=>match o.dst,o.op with
   | none,.insert T' (.tmp t) kk vv=>match Nat.beq T' T&&Nat.beq t mo,ev E kk,ev E vv with
    | true,some kv,some v=>match Instr.findNow b kv es 0 with
     | some none=>E8s n a T mo b E k (i+1) (clk+1) (es++[⟨kv,v,clk⟩])
     | _=>none
    | _,_,_=>none
   | _,_=>none
section
variable {P:Program} {n:Nat} {X:Cx} {K:Act→World→Prop} {Q:Exit→Act→World→Prop} {E:bX} {Φ:List Pers}
theorem B8t {c:Array Oper} {T y e:Nat} {l:TypeDesc} {mo b m:Nat} {es':List MapEntry} (p:MapTy P T y e l) (q:E.lookup mo=some (.map (some b))) (ix:Nat):∀ (k i a:Nat) (es:List MapEntry) (L:Own),
  L[ix]?=some (b,.map es.toArray a)→E8s n c T mo l E k i a es=some es'→JI P n X c (i+k) m K Q E (L.set ix (b,.map es'.toArray (a+k))) Φ→JI P n X c i (k+m) K Q E L Φ
 | 0,i,a,es,L,hi,h,g=>by
  simp only [E8s,Option.some.injEq] at h
  subst h
  rw [Nat.zero_add]
  have:L.set ix (b,.map es.toArray (a+0))=L:=by
   apply List.ext_getElem?
   intro j
   rw [List.getElem?_set]
   split
   ·rename_i hj
    subst hj
    split
    ·exact hi.symm
    ·rename_i hl;rw [List.getElem?_eq_none opx]
   ·rfl
  rw [this] at g;exact g
 | k+1,i,a,es,L,hi,h,g=>by
  unfold E8s at h
  split at h
  ·cases h
  ·rename_i o w
   split at h
   ·rename_i T' t kk vv s f
    split at h
    ·rename_i u v d z x
     split at h
     ·rename_i r
      rw [Bool.and_eq_true] at d
      obtain rfl:=Nat.eq_of_beq_eq_true d.1
      obtain rfl:=Nat.eq_of_beq_eq_true d.2
      rw [Nat.add_right_comm]
      refine it w (F3 p (.inl f) q z x ix hi (by simpa using r) rfl) fun _=>?_
      rw [s]
      refine B8t p q ix k (i+1) (a+1) (es++[⟨u,v,a⟩]) _ ?_ h ?_
      ·rw [List.getElem?_set_self (by have:=(List.getElem?_eq_some_iff.1 hi).1;exact this)];simp
      ·rw [List.set_set,show i+1+k=i+(k+1) by omega,show a+1+k=a+(k+1) by omega];exact g
     ·cases h
    ·cases h
   ·cases h
end
end Go.Fen
namespace Go.Fen
open Go Go.RowKit Go.ChangeShapes
variable {P:Program}
section
variable {P:Program} {n:Nat} {X:Cx} {K:Act→World→Prop} {Q:Exit→Act→World→Prop} {E E':bX} {L L':Own} {Φ Φ':List Pers}
theorem I4.drop {α:Type} {rs:List Slc} {xss:List (List α)} (h:I4 rs xss) (k:Nat):I4 (rs.drop k) (xss.drop k):=⟨by simp [h.1],fun i r xs hr a=>h.2 (k+i) r xs (by simpa using hr) (by simpa using a)⟩
theorem I4.take {α:Type} {rs:List Slc} {xss:List (List α)} (h:I4 rs xss) (k:Nat):I4 (rs.take k) (xss.take k):=⟨by simp [h.1],fun i r xs hr a=>by
 rw [List.getElem?_take] at hr a
 split at hr
 ·rename_i b;rw [if_pos b] at a;exact h.2 i r xs hr a
 ·cases hr⟩
theorem F1.drop {α:Type} {rs:List Rwq} {xss:List (Rwc α)} (h:F1 rs xss) (k:Nat):F1 (rs.drop k) (xss.drop k):=⟨by simp [h.1],by rw [List.map_drop,List.map_drop];exact h.2.1.drop k,by rw [List.map_drop,List.map_drop,h.2.2]⟩
theorem F1.take {α:Type} {rs:List Rwq} {xss:List (Rwc α)} (h:F1 rs xss) (k:Nat):F1 (rs.take k) (xss.take k):=⟨by simp [h.1],by rw [List.map_take,List.map_take];exact h.2.1.take k,by rw [List.map_take,List.map_take,h.2.2]⟩
theorem C3d {L:Own} {o:Oper} {T k e:Nat} {h:TypeDesc} {m f:Operand} {b:Nat} {g z:Value} {es:Array MapEntry} {c:Nat} (a:MapTy P T k e h) (q:o.op=.lookup T m f false) (y:ev E m=some (.map (some b))) (u:ev E f=some g)
  (i:Nat) (s:L[i]?=some (b,.map es c)) (l:Instr.findNow h g es.toList 0=some none) (x:(P.info? e).bind (·.zero)=some z):I6 P X o E L Φ z:=.of_run fun ac w j p=>by
 have n:=C0d p s
 obtain ⟨r,v,t⟩:=Option.bind_eq_some_iff.1 x
 have d:(zeroValue e).run P w=.ok z w:=by simp [zeroValue,A8p v,t]
 simp [execOp,q,C3 j y,C3 j u,Instr.lookup,run_underlying a.ty,D8h n,A2k a,A3e a l,d]
theorem Has.val {a:Act} (c:Has a E) {t:Nat} {v:Value} (d:E.lookup t=some v):Has a ((t,v)::E):=by
 intro b f e
 by_cases he:b=t
 ·subst he;simp [List.lookup] at e;subst e;exact c _ _ d
 ·have:(b == t)=false:=by simpa using he
  simp only [List.lookup,this] at e
  exact c _ _ e
end
section
variable {P:Program} {n:Nat} {X:Cx} {K:Act→World→Prop} {Q:Exit→Act→World→Prop} {E E':bX} {L L':Own} {Φ Φ':List Pers}
theorem f1h {q:Pers}:S1 (q::Φ) q:=B8 0 rfl
theorem f1t {q r:Pers} (h:S1 Φ q):S1 (r::Φ) q:=fun p a=>h p fun x b=>a x (List.mem_cons_of_mem _ b)
theorem sbm {α:Type} {e:α} {A B:List α} (h:List.Sublist A B):List.Sublist (e::A) (e::B):=h.cons_cons e
theorem sba {α:Type} {v A B:List α} (h:List.Sublist A B):List.Sublist (v++A) (v++B):=List.Sublist.append (List.Sublist.refl v) h
theorem sbs {α:Type} {e:α} {A B:List α} (h:List.Sublist A B):List.Sublist A (e::B):=h.cons e
theorem sbv {α:Type} {v A B:List α} (h:List.Sublist A B):List.Sublist A (v++B):=h.trans (List.sublist_append_right v B)
def E3s (e:Nat×Obj) (L L':Own):Prop:=L.Perm (e::L')
theorem re0 {e:Nat×Obj}:E3s e (e::L) L:=List.Perm.refl _
theorem re1 {e x:Nat×Obj} (h:E3s e L L'):E3s e (x::L) (x::L'):=(List.Perm.cons x h).trans (List.Perm.swap e x L')
theorem re2 {e:Nat×Obj} {v:Own} (h:E3s e L L'):E3s e (v++L) (v++L'):=(List.Perm.append_left v h).trans List.perm_middle
def E3f (v L L':Own):Prop:=L.Perm (v++L')
theorem rv0 {v:Own}:E3f v (v++L) L:=List.Perm.refl _
theorem rv1 {x:Nat×Obj} {v:Own} (h:E3f v L L'):E3f v (x::L) (x::L'):=(List.Perm.cons x h).trans List.perm_middle.symm
theorem rv2 {v u:Own} (h:E3f v L L'):E3f v (u++L) (u++L'):=(List.Perm.append_left u h).trans (C9u u v L')
def PkP (L L0 L2:Own):Prop:=L.Perm (L0++L2)
theorem pk0:PkP L [] L:=List.Perm.refl _
theorem pkc {e:Nat×Obj} {l L2:Own} (h:E3s e L L') (k:PkP L' l L2):PkP L (e::l) L2:=h.trans (List.Perm.cons e k)
theorem pkv {v l L2:Own} (h:E3f v L L') (k:PkP L' l L2):PkP L (v++l) L2:=by
 unfold PkP;rw [List.append_assoc];exact h.trans (List.Perm.append_left v k)
def SrP (M L:Own):Prop:=M.Perm L
def InP (v L L':Own):Prop:=(v++L).Perm L'
theorem sr0:SrP [] []:=List.Perm.refl _
theorem sr1 {e:Nat×Obj} {M:Own} (h:SrP M L):SrP (e::M) (e::L):=List.Perm.cons e h
theorem sr2 {v M:Own} (h:SrP M L) (k:InP v L L'):SrP (v++M) L':=(List.Perm.append_left v h).trans k
theorem sr3 {M:Own}:SrP M M:=List.Perm.refl _
theorem in1 {v:Own} {e:Nat×Obj} (h:InP v L L'):InP v (e::L) (e::L'):=List.perm_middle.trans (List.Perm.cons e h)
theorem in0 {v:Own}:InP v L (v++L):=List.Perm.refl _
theorem sr4 {M M':Own} (e:M=M') (h:SrP M' L):SrP M L:=e▸h
def C4q (n:Nat) (a:Array Oper) (i:Nat) (E:bX):Option (FuncId×List Value×Option Nat) :=
 match C3r n a i E with
 | some o=>match o.op with
  | .call c=>match c.callee with
   | .value fv=>match ev E fv,c.args.toList.mapM (ev E) with
    | some (.func (.func k) first cap),some vs=>some (k,(first++vs.toArray++cap).toList,o.dst)
    | _,_=>none
   | _=>none
  | _=>none
 | none=>none
theorem A7f {a:Array Oper} {i:Nat} {k:FuncId} {args:List Value} {d:Option Nat} (h:C4q n a i E=some (k,args,d)) :
  ∃ o c e first cap b,C3r n a i E=some o∧o.op=.call c∧c.callee=.value e∧ev E e=some (.func (.func k) first cap)∧c.args.toList.mapM (ev E)=some b∧(first++b.toArray++cap).toList=args∧o.dst=d:=by
 unfold C4q at h
 split at h
 ·rename_i o g
  split at h
  ·rename_i c m
   split at h
   ·rename_i e f
    split at h
    ·rename_i p first cap b l j
     simp only [Option.some.injEq,Prod.mk.injEq] at h
     obtain ⟨rfl,rfl,rfl⟩:=h
     exact ⟨o,c,e,first,cap,b,g,m,f,l,j,rfl,rfl⟩
    ·cases h
   ·cases h
  ·cases h
 ·cases h
theorem zv {a:Array Oper} {i m:Nat} {k:FuncId} {args:List Value} {d:Option Nat} {Φ0:List Pers} {v:Value} (g:C4q n a i E=some (k,args,d)) (b:J5 P k args Φ0 v)
  (h:JI P n X a (i+1) m K Q (bX.put E d v) L Φ) (hΦ:A9 Φ Φ0:=by first|exact A9.nil|exact A9.refl|(repeat' first|with_reducible exact A9.nil|with_reducible refine A9.con1 ?_ ?_|with_reducible exact f1h|with_reducible refine f1t ?_|exact B7s|exact A1a|exact B7l);done|(repeat' first|exact A9.nil|refine A9.con1 ?_ ?_|exact f1h|refine f1t ?_|exact B7s|exact A1a|exact B7l)):JI P n X a i (m+1) K Q E L Φ:=by
 obtain ⟨o,c,s,first,cap,r,j,p,l,f,q,e,rfl⟩:=A7f g
 exact ixc j (A8n b p l f q e hΦ) h
theorem zvd {a:Array Oper} {i m:Nat} {k:FuncId} {args:List Value} {d:Option Nat} {Φ0:List Pers} {v:Value} (g:C4q n a i E=some (k,args,d)) (b:J5 P k args Φ0 v)
  (h:JD P n X a (i+1) m K (bX.put E d v) L Φ) (hΦ:A9 Φ Φ0:=by first|exact A9.nil|exact A9.refl|(repeat' first|with_reducible exact A9.nil|with_reducible refine A9.con1 ?_ ?_|with_reducible exact f1h|with_reducible refine f1t ?_|exact B7s|exact A1a|exact B7l);done|(repeat' first|exact A9.nil|refine A9.con1 ?_ ?_|exact f1h|refine f1t ?_|exact B7s|exact A1a|exact B7l)):JD P n X a i (m+1) K E L Φ:=by
 obtain ⟨o,c,s,first,cap,r,j,p,l,f,q,e,rfl⟩:=A7f g
 exact ddc j (A8n b p l f q e hΦ) h
theorem ond {p:Prop} (h:p:=by first|(simp only [List.cons_append,List.nil_append,List.append_assoc];exact rfl)|exact rfl):p:=h
theorem zc {a:Array Oper} {i m:Nat} {k:FuncId} {args:List Value} {d:Option Nat} {L0 L2:Own} {Φ0:List Pers} {α:Type} {val:α→Value} {L1:α→Own} {Φ1:α→List Pers} {L3:α→Own} {Φ3:α→List Pers}
  (g:C4q n a i E=some (k,args,d)) (b:cI P k args L0 Φ0 α val L1 Φ1) (h:∀ x,JI P n X a (i+1) m K Q (bX.put E d (val x)) (L3 x) (Φ3 x))
  (s:PkP L L0 L2:=by repeat' first|with_reducible exact pk0|with_reducible apply pkc|with_reducible apply pkv|with_reducible exact re0|with_reducible exact rv0|with_reducible apply re1|with_reducible apply re2|with_reducible apply rv1|with_reducible apply rv2)
  (e:∀ x,SrP (L1 x++L2) (L3 x):=by
   intro _
   refine sr4 ond ?_
   repeat' first|with_reducible exact sr0|with_reducible apply sr1|with_reducible apply sr2|with_reducible apply in1|with_reducible exact in0|exact sr3)
  (hΦ:A9 Φ Φ0:=by first|exact A9.nil|exact A9.refl|(repeat' first|with_reducible exact A9.nil|with_reducible refine A9.con1 ?_ ?_|with_reducible exact f1h|with_reducible refine f1t ?_|exact B7s|exact A1a|exact B7l);done|(repeat' first|exact A9.nil|refine A9.con1 ?_ ?_|exact f1h|refine f1t ?_|exact B7s|exact A1a|exact B7l))
  (hΦ3:∀ x,Φ1 x++Φ=Φ3 x:=by intro _;first|exact List.nil_append _|(simp only [List.nil_append,List.cons_append];exact rfl)|exact rfl):JI P n X a i (m+1) K Q E L Φ:=by
 obtain ⟨o,c,u,first,cap,t,j,q,l,p,r,f,rfl⟩:=A7f g
 obtain rfl:(fun x=>Φ1 x++Φ)=Φ3:=funext hΦ3
 exact it j (J7 b q l p r f hΦ s L3 e) h
theorem bP {p:Prop} (h:p:=by first|omega|(simp only [List.length_take,List.length_drop,List.length_append,List.length_cons,List.length_nil,List.length_set,List.length_map,List.length_replicate];omega)|decide|assumption|(dsimp only;omega)):p:=h
abbrev un {α β ρ:Type} (f:α→β→ρ) (x:α×β):ρ:=match x with | (a,b)=>f a b
theorem bQ {A B:Own} (h:List.Sublist A B:=by
   first
    | exact List.nil_sublist _
    | exact List.Sublist.refl _
    | (repeat' first | with_reducible exact List.nil_sublist _ | with_reducible exact List.Sublist.refl _ | with_reducible refine sbm ?_ | with_reducible refine sba ?_ | with_reducible refine sbs ?_ | with_reducible refine sbv ?_);done
    | (repeat' first | exact List.nil_sublist _ | exact List.Sublist.refl _ | refine sbm ?_ | refine sba ?_ | refine sbs ?_ | refine sbv ?_);done
    | (simp only [List.length_set];repeat' first | exact List.nil_sublist _ | exact List.Sublist.refl _ | refine sbm ?_ | refine sba ?_ | refine sbs ?_ | refine sbv ?_);done):List.Sublist A B:=h
theorem c9 {A B:List Pers} (h:A9 A B:=by first|exact A9.nil|exact A9.refl|(repeat' first|with_reducible exact A9.nil|with_reducible refine A9.con1 ?_ ?_|with_reducible exact f1h|with_reducible refine f1t ?_|exact B7s|exact A1a|exact B7l);done|(repeat' first|exact A9.nil|refine A9.con1 ?_ ?_|exact f1h|refine f1t ?_|exact B7s|exact A1a|exact B7l)):A9 A B:=h
def F0n:Nat→List Value→bX
 | _,[]=>[]
 | i,v::l=>(i,v)::F0n (i+1) l
theorem C8r:∀ (xs:List Value) (k j:Nat),((List.range' k xs.length).zip xs).lookup (k+j)=xs[j]?
 | [],k,j=>rfl
 | v::xs,k,j=>by
  simp only [List.length_cons,List.range'_succ,List.zip_cons_cons,List.lookup_cons]
  cases j with
  | zero=>simp
  | succ j =>
   have e:(k+(j+1) == k)=false:=by simp
   rw [e,show k+(j+1)=(k+1)+j by omega]
   simpa using C8r xs (k+1) j
theorem C7e {A:bX}:∀ (l:List Value) (k:Nat),(∀ j,j<l.length→A.lookup (k+j)=l[j]?)→S6 A (F0n k l)
 | [],_,_=>trivial
 | v::l,k,h=>⟨by simpa using h 0 oom,C7e l (k+1) fun j a=>by
   have:=h (j+1) (by simp;omega)
   rw [show k+(j+1)=k+1+j by omega] at this
   simpa using this⟩
theorem bZ {f:FuncId} {a:Func} {c:Code} {args:List Value} {L0:Own} {Φ0:List Pers} {α:Type} {val:α→Value} {L1:α→Own} {Φ1:α→List Pers} (e:P.funcs[f]?=some a)
  (h:∀ X:Cx,X.M=L0.map Prod.fst→X.rho=none→X.D=[]→J P n X c (D3u P X a α val L1 Φ1) (F0n 0 args) L0 Φ0) (g:a.body=some c:=by rfl) (i:a.ntmps=n:=by rfl)
  (b : (a.name == "runtime.NumGoroutine") = false := by kernel_rfl) (d : Nat.ble args.length n = true := by rfl) : cI P f args L0 Φ0 α val L1 Φ1 :=
 D8q e g b i d _ (C7e args 0 fun j k=>by rw [List.range_eq_range',C8r]) h
theorem pp0 {a:Array Oper} {i:Nat} {m:Nat} (k:Nat) (h:A4d P n a k i E []=some []) (g:JI P n X a (i+k) m K Q ([]++E) L Φ):JI P n X a i (m+k) K Q E L Φ:=Nat.add_comm k m▸ip k m _ h g
theorem bO {a:Array Oper} {i:Nat} {m:Nat} (k c:Nat) {b:Value} (h:A4d P n a k i E [(c,b)]=some [(c,b)]) (g:JI P n X a (i+k) m K Q ([(c,b)]++E) L Φ):JI P n X a i (m+k) K Q E L Φ:=Nat.add_comm k m▸ip k m _ h g
theorem pd1 {a:Array Oper} {i:Nat} {m:Nat} (k c:Nat) {b:Value} (h:A4d P n a k i E [(c,b)]=some [(c,b)]) (g:JD P n X a (i+k) m K ([(c,b)]++E) L Φ):JD P n X a i (m+k) K E L Φ:=Nat.add_comm k m▸dp k m _ h g
theorem cE {a:Array Oper} {i:Nat} {m:Nat} (k:Nat) (c:List Nat) (d:Nat) {b:Value} (h:exL P n a k i c [] E L [(d,b)]=some ([(d,b)],L,exS P n a k i c [] E L)) (g:JI P n X a (i+k) m K Q ([(d,b)]++E) L Φ):JI P n X a i (m+k) K Q E L Φ:=Nat.add_comm k m▸bY k m c _ g h
theorem pg1 {a:Array Oper} {i:Nat} {m:Nat} (k:Nat) (c:List Nat) (d:Nat) {b:Value} (h:exL P n a k i c [] E L [(d,b)]=some ([(d,b)],L,exS P n a k i c [] E L)) (g:JD P n X a (i+k) m K ([(d,b)]++E) L Φ) (e:C2h a k i=true:=by kernel_rfl):JD P n X a i (m+k) K E L Φ:=Nat.add_comm k m▸zdg k m c _ g h e
theorem cJ {a:Array Oper} {i:Nat} {m:Nat} (k d c:Nat) {b e:Value} (h:A4d P n a k i E [(d,b),(c,e)]=some [(d,b),(c,e)]) (g:JI P n X a (i+k) m K Q ([(d,b),(c,e)]++E) L Φ):JI P n X a i (m+k) K Q E L Φ:=Nat.add_comm k m▸ip k m _ h g
theorem pd2 {a:Array Oper} {i:Nat} {m:Nat} (k d c:Nat) {b e:Value} (h:A4d P n a k i E [(d,b),(c,e)]=some [(d,b),(c,e)]) (g:JD P n X a (i+k) m K ([(d,b),(c,e)]++E) L Φ):JD P n X a i (m+k) K E L Φ:=Nat.add_comm k m▸dp k m _ h g
theorem pl2 {a:Array Oper} {i:Nat} {m:Nat} (k:Nat) (d:List Nat) (e c:Nat) {b f:Value} (h:exL P n a k i d [] E L [(e,b),(c,f)]=some ([(e,b),(c,f)],L,exS P n a k i d [] E L)) (g:JI P n X a (i+k) m K Q ([(e,b),(c,f)]++E) L Φ):JI P n X a i (m+k) K Q E L Φ:=Nat.add_comm k m▸bY k m d _ g h
theorem pg2 {a:Array Oper} {i:Nat} {m:Nat} (k:Nat) (d:List Nat) (e c:Nat) {b f:Value} (h:exL P n a k i d [] E L [(e,b),(c,f)]=some ([(e,b),(c,f)],L,exS P n a k i d [] E L)) (g:JD P n X a (i+k) m K ([(e,b),(c,f)]++E) L Φ) (j:C2h a k i=true:=by kernel_rfl):JD P n X a i (m+k) K E L Φ:=Nat.add_comm k m▸zdg k m d _ g h j
theorem pp3 {a:Array Oper} {i:Nat} {m:Nat} (k e c j:Nat) {b f d:Value} (h:A4d P n a k i E [(e,b),(c,f),(j,d)]=some [(e,b),(c,f),(j,d)]) (g:JI P n X a (i+k) m K Q ([(e,b),(c,f),(j,d)]++E) L Φ):JI P n X a i (m+k) K Q E L Φ:=Nat.add_comm k m▸ip k m _ h g
theorem pl3 {a:Array Oper} {i:Nat} {m:Nat} (k:Nat) (e:List Nat) (f c l:Nat) {b j d:Value} (h:exL P n a k i e [] E L [(f,b),(c,j),(l,d)]=some ([(f,b),(c,j),(l,d)],L,exS P n a k i e [] E L)) (g:JI P n X a (i+k) m K Q ([(f,b),(c,j),(l,d)]++E) L Φ):JI P n X a i (m+k) K Q E L Φ:=Nat.add_comm k m▸bY k m e _ g h
theorem pg3 {a:Array Oper} {i:Nat} {m:Nat} (k:Nat) (e:List Nat) (f c l:Nat) {b j d:Value} (h:exL P n a k i e [] E L [(f,b),(c,j),(l,d)]=some ([(f,b),(c,j),(l,d)],L,exS P n a k i e [] E L)) (g:JD P n X a (i+k) m K ([(f,b),(c,j),(l,d)]++E) L Φ) (o:C2h a k i=true:=by kernel_rfl):JD P n X a i (m+k) K E L Φ:=Nat.add_comm k m▸zdg k m e _ g h o
theorem pp4 {a:Array Oper} {i:Nat} {m:Nat} (k j c o d:Nat) {b l e f:Value} (h:A4d P n a k i E [(j,b),(c,l),(o,e),(d,f)]=some [(j,b),(c,l),(o,e),(d,f)]) (g:JI P n X a (i+k) m K Q ([(j,b),(c,l),(o,e),(d,f)]++E) L Φ):JI P n X a i (m+k) K Q E L Φ:=Nat.add_comm k m▸ip k m _ h g
def pv (q:Option Nat):Value:=match q with | none=>.pointer none | some b=>pt b 0
theorem P2 {b:Array Oper} {i m:Nat} {v:Value} (t:Nat) (d:E.lookup t=some v) (h:JI P n X b i m K Q ((t,v)::E) L Φ):JI P n X b i m K Q E L Φ:=fun a w c=>h a w ⟨c.size,c.defers,c.has.val d,c.world⟩
theorem bN {id:Nat} {c:Array Oper} {y:Code} {m:Nat} (d:c.size=m) (h:JI P n X c 0 m (fun a w=>y.wpIn (FW X.rho) 0 P Q a w) (Exit.then (fun a w=>y.wpIn (FW X.rho) 0 P Q a w) Q) E L Φ):J P n X (.seq (.region id c false) y) Q E L Φ:=sr m d h
class BP (b:Bool) (p:outParam Prop):Prop where
 iff:b=true ↔ p
instance (priority:=low) (b:Bool):BP b (b=true):=⟨Iff.rfl⟩
instance (p:Prop) [Decidable p]:BP (decide p) p:=⟨decide_eq_true_iff⟩
instance (a b:Bool) (p q:Prop) [BP a p] [BP b q]:BP (a&&b) (p∧q):=⟨by rw [Bool.and_eq_true,BP.iff (b:=a),BP.iff (b:=b)]⟩
instance (a b:Bool) (p q:Prop) [BP a p] [BP b q]:BP (a||b) (p∨q):=⟨by rw [Bool.or_eq_true,BP.iff (b:=a),BP.iff (b:=b)]⟩
instance (a:Bool) (p:Prop) [BP a p]:BP (!a) (¬ p):=⟨by rw [Bool.not_eq_true',← BP.iff (b:=a),Bool.not_eq_true]⟩
class BR (c:Bool) (p:Prop) (r:outParam Prop):Prop where
 iff:(c=true→(r ↔ p))∧(c=false→(r ↔ ¬ p))
theorem ozw {p:Prop} (h:p:=by decide):p:=h
instance (p:Prop):BR true p p:=⟨⟨fun _=>Iff.rfl,fun h=>absurd h ozw⟩⟩
instance (p:Prop):BR false p (¬ p):=⟨⟨fun h=>absurd h ozw,fun _=>Iff.rfl⟩⟩
theorem bU {b c:Bool} {p r:Prop} (h:b=c) [BP b p] [BR c p r]:r:=by
 subst h
 cases hb:b with
 | true=>exact ((BR.iff (c:=b) (p:=p) (r:=r)).1 hb).2 ((BP.iff (b:=b)).1 hb)
 | false=>exact ((BR.iff (c:=b) (p:=p) (r:=r)).2 hb).2 fun a=>by rw [(BP.iff (b:=b)).2 a] at hb;cases hb
end
section
variable {Φ:List Pers} {α:Type} {c:α→List Value} {rs ys:List Rwq} {xss yss:List (Rwc α)}
theorem F1.copy (h:F1 rs xss) (k:F1 ys yss) (l:Nat):F1 (rs.take l++(ys.take (rs.length - l)++rs.drop (l+min ys.length (rs.length - l)))) (xss.take l++(yss.take (xss.length - l)++xss.drop (l+min yss.length (xss.length - l)))):=by
 rw [h.1,k.1];exact F1.append (F1.take h l) (F1.append (F1.take k _) (F1.drop h _))
theorem B0k {P:Program} {i:Nat} {X:Cx} {E:bX} {L:Own} {o:Oper} {a:Call} {T e sz:Nat} {x y:Operand} {β:Type} {f:β→List Value} {r:VR} {n2:Nat} {z:β} {zs:List β} {q:Option Addr} {m cc:Nat} {pre post:Own} (w:SlTy P T e sz) (p:∀ x,(f x).length=sz) (g:∀ x,(f x).all (·.oneCell')=true)
  (s:o.op=.call a) (hc:a.callee=.builtin .copy) (c:a.args=#[x,y]) (d:a.argTypes=#[T,T]) (t:ev E x=some (vv r (List.replicate n2 z).length)) (k:ev E y=some (.slice q m cc)) (l:m=zs.length) (hL:L=pre++(vo f e r (List.replicate n2 z)++post))
  (v:S1 Φ (sl f q zs)) (b:bR sz (List.replicate n2 z).length r) (u:zs.length=n2) :
  Tri P i X o E L Φ Unit (fun _=>.int .i64 ((min zs.length (List.replicate n2 z).length:Nat):Int)) (fun _=>pre++(vo f e r zs++post)) (fun _=>Φ):=by
 have h:=D2w (P:=P) (n:=i) (X:=X) (E:=E) w p g s hc c d t k l hL v b
 have j:zs.take (List.replicate n2 z).length++(List.replicate n2 z).drop zs.length=zs:=by subst u;simp
 rw [j] at h;exact h
end
section
variable {P:Program} {n:Nat} {X:Cx} {K:Act→World→Prop} {Q:Exit→Act→World→Prop} {E E':bX} {L L':Own} {Φ Φ':List Pers}
end
def pko (cs:List Own) (a:List Nat):Own:=(a.map fun j=>cs.getD j []).flatten
def hdc (cs:List Own) (a:List (Nat×List Nat)):V2:=a.map fun p=>(p.1,pko cs p.2)
def A4t (l:Array Bool):Nat:=l.toList.countP (!·)
def A1u (l:Array Bool):List Nat→Array Bool
 | []=>l
 | i::is=>A1u (l.setIfInBounds i true) is
def Chk (L:Own) (cs:List Own):Prop:=cs.flatten=L
theorem ch0:Chk [] []:=rfl
theorem ch1 {e:Nat×Obj} {L:Own} {cs:List Own} (h:Chk L cs):Chk (e::L) ([e]::cs):=by unfold Chk at *;simp [h]
theorem ch2 {v L:Own} {cs:List Own} (h:Chk L cs):Chk (v++L) (v::cs):=by unfold Chk at *;simp [h]
theorem ch3 {v:Own}:Chk v [v]:=by unfold Chk;simp
def C9j (m:Nat):Nat→List Nat→Bool
 | _,[]=>true
 | k,j::js=>Nat.ble k j&&Nat.blt j m&&C9j m (j+1) js
theorem C3e:∀ (cs:List Own) (b:List Nat) (k:Nat),C9j (k+cs.length) k b=true→((b.map fun j=>cs.getD (j - k) []).flatten).Sublist cs.flatten
 | cs,[],k,_=>by simp
 | [],j::b,k,h=>by
  simp only [C9j,List.length_nil,Nat.add_zero,Bool.and_eq_true,Nat.ble_eq,Nat.blt_eq] at h;omega
 | c::cs,j::b,k,h=>by
  simp only [C9j,List.length_cons,Bool.and_eq_true,Nat.ble_eq,Nat.blt_eq] at h
  obtain ⟨⟨p,o⟩,g⟩:=h
  by_cases e:j=k
  ·subst e
   have:=C3e cs b (j+1) (by rw [show j+1+cs.length=j+(cs.length+1) by omega];exact g)
   have n:(b.map fun i=>(c::cs).getD (i - j) [])=b.map fun i=>cs.getD (i - (j+1)) []:=by
    refine List.map_congr_left fun i a=>?_
    have:j+1≤i:=by
     clear this p o
     revert g
     generalize j+1=q
     intro g
     have d:∀ (l:List Nat) (q m:Nat),C9j m q l=true→∀ i ∈ l,q≤i:=by
      intro l
      induction l with
      | nil=>intro q m _ i a;cases a
      | cons x xs ih =>
       intro q m f i a
       simp only [C9j,Bool.and_eq_true,Nat.ble_eq] at f
       rcases List.mem_cons.1 a with rfl | a
       ·exact f.1.1
       ·have:=ih (x+1) m f.2 i a;omega
     exact d _ _ _ g i a
    rw [show i - j=(i - (j+1))+1 by omega];rfl
   simp only [List.map_cons,List.flatten_cons,Nat.sub_self,List.getD_cons_zero]
   rw [n]
   exact (List.Sublist.refl c).append this
  ·have:=C3e cs (j::b) (k+1) (by
    simp only [C9j,Bool.and_eq_true,Nat.ble_eq,Nat.blt_eq]
    exact ⟨⟨by omega,by omega⟩,by rw [show k+1+cs.length=k+(cs.length+1) by omega];exact g⟩)
   have n:((j::b).map fun i=>(c::cs).getD (i - k) [])=(j::b).map fun i=>cs.getD (i - (k+1)) []:=by
    refine List.map_congr_left fun i a=>?_
    have:k+1≤i:=by
     rcases List.mem_cons.1 a with rfl | a
     ·omega
     ·have d:∀ (l:List Nat) (q m:Nat),C9j m q l=true→∀ i ∈ l,q≤i:=by
       intro l
       induction l with
       | nil=>intro q m _ i a;cases a
       | cons x xs ih =>
        intro q m f i a
        simp only [C9j,Bool.and_eq_true,Nat.ble_eq] at f
        rcases List.mem_cons.1 a with rfl | a
        ·exact f.1.1
        ·have:=ih (x+1) m f.2 i a;omega
      have:=d _ _ _ g i a;omega
    rw [show i - k=(i - (k+1))+1 by omega];rfl
   rw [n,List.flatten_cons]
   exact this.trans (List.sublist_append_right c _)
def E0l (P:Program) (n:Nat) (a:Array Oper):List Nat→bX→Option bX
 | [],E=>some E
 | i::is,E=>match a[i]? with
  | some o=>match A6r a o E with
   | some true=>match B6r P E o.op with
    | some v=>E0l P n a is (bX.put E o.dst v)
    | none=>none
   | some false=>E0l P n a is (bX.put E o.dst undef)
   | none=>none
  | none=>none
def D6p (R:Option bX) (a:bX):Option bX:=match R with
 | some R=>B9l R a
 | none=>none
section
variable {P:Program} {n:Nat} {X:Cx} {K:Act→World→Prop} {Q:Exit→Act→World→Prop} {E E':bX} {L L':Own} {Φ Φ' Φs:List Pers}
abbrev JG (P:Program) (n:Nat) (X:Cx) (c:Array Oper) (a:Array Bool) (K:Act→World→Prop) (b:V2) (Φs:List Pers) (E:bX) (L:Own) (Φ:List Pers):Prop:=JH P n X c (A4t a) a K b Φs E L Φ
theorem E1q (cs:List Own) (a:List (Nat×List Nat)) (l:Array Bool) (h:(a.all fun p=>!(l.getD p.1 false))=true):(hdc cs a).at l=pko cs (a.map (·.2)).flatten:=by
 induction a with
 | nil=>rfl
 | cons p a b =>
  simp only [List.all_cons,Bool.and_eq_true] at h
  have b:=b h.2
  unfold V2.at hdc at *
  simp only [List.map_cons,List.filter_cons,h.1,if_true,List.flatten_cons]
  rw [b]
  unfold pko
  simp [List.map_append,List.flatten_append]
theorem zS {id:Nat} {b:Array Oper} {y:Code} {cs:List Own} (c:List (Nat×List Nat)) (h:JG P n X b (Array.replicate b.size false) (fun a w=>y.wpIn (FW X.rho) 0 P Q a w) (hdc cs c) Φ E L Φ)
  (g:Chk L cs:=by repeat' first|with_reducible exact ch0|with_reducible apply ch1|with_reducible apply ch2|apply ch1|exact ch3) (hr:C9j cs.length 0 (c.map (·.2)).flatten=true:=by kernel_rfl)
  (j:P.follows .mixedOrders=true:=by kernel_rfl) (f:(A2q b&&Region.noSelect b)=true:=by kernel_rfl) (i:A4t (Array.replicate b.size false)=b.size:=by kernel_rfl) (e:(c.all fun p=>!((Array.replicate b.size false).getD p.1 false))=true:=by kernel_rfl):J P n X (.seq (.region id b true) y) Q E L Φ:=by
 refine sh b.size (hdc cs c) Φ _ _ j rfl f rfl rfl ?_ A9.refl (by have d:=h;unfold JG at d;rwa [i] at d)
 rw [E1q _ _ _ e,← g]
 simpa [pko] using C3e cs (c.map (·.2)).flatten 0 (by rw [Nat.zero_add];exact hr)
theorem zSn {id:Nat} {a:Array Oper} {cs:List Own} (b:List (Nat×List Nat)) (h:JG P n X a (Array.replicate a.size false) (Q .normal) (hdc cs b) Φ E L Φ)
  (f:Chk L cs:=by repeat' first|with_reducible exact ch0|with_reducible apply ch1|with_reducible apply ch2|apply ch1|exact ch3) (hr:C9j cs.length 0 (b.map (·.2)).flatten=true:=by kernel_rfl)
  (i:P.follows .mixedOrders=true:=by kernel_rfl) (e:(A2q a&&Region.noSelect a)=true:=by kernel_rfl) (g:A4t (Array.replicate a.size false)=a.size:=by kernel_rfl) (d:(b.all fun p=>!((Array.replicate a.size false).getD p.1 false))=true:=by kernel_rfl):J P n X (.region id a true) Q E L Φ:=by
 refine sh' a.size (hdc cs b) Φ _ _ i rfl e rfl rfl ?_ A9.refl (by have c:=h;unfold JG at c;rwa [g] at c)
 rw [E1q _ _ _ d,← f]
 simpa [pko] using C3e cs (b.map (·.2)).flatten 0 (by rw [Nat.zero_add];exact hr)
theorem gk {c:Array Oper} {a:Array Bool} {b:V2} (i:Nat) {o:Oper} {v:Value} (f:c[i]?=some o) (k:I6 P X o E (b.of c i) Φs v) (h:JG P n X c (a.setIfInBounds i true) K b Φs (bX.put E o.dst v) L Φ)
  (e:A6r c o E=some true:=by rfl) (d:X6 n o.dst=true:=by rfl) (j:A9w c b a i=true:=by kernel_rfl) (g:A4t a=A4t (a.setIfInBounds i true)+1:=by kernel_rfl):JG P n X c a K b Φs E L Φ:=by
 show JH P n X c (A4t a) a K b Φs E L Φ
 rw [g];exact E8j i _ _ f e d j rfl rfl k h
theorem gl {b:Array Oper} {a:Array Bool} {cs:List Own} {c:List (Nat×List Nat)} (i:Nat) (js:List Nat) {o:Oper} {v:Value} (g:b[i]?=some o) (l:I6 P X o E (pko cs js) Φs v) (h:JG P n X b (a.setIfInBounds i true) K (hdc cs c) Φs (bX.put E o.dst v) L Φ)
  (f:A6r b o E=some true:=by rfl) (e:X6 n o.dst=true:=by rfl) (k:A9w b (hdc cs c) a i=true:=by kernel_rfl) (d:(hdc cs c).of b i=pko cs js:=by kernel_rfl) (j:A4t a=A4t (a.setIfInBounds i true)+1:=by kernel_rfl):JG P n X b a K (hdc cs c) Φs E L Φ:=by
 show JH P n X b (A4t a) a K (hdc cs c) Φs E L Φ
 rw [j];exact E8j i _ _ g f e k d rfl l h
theorem go {b:Array Oper} {a:Array Bool} {cs:List Own} {c:List (Nat×List Nat)} (i:Nat) (js:List Nat) {o:Oper} {α:Type} {val:α→Value} {L':α→Own} {Φ':α→List Pers} (f:b[i]?=some o) (j:Tri P n X o E L Φ α val L' Φ')
  (h:∀ x,JG P n X b (a.setIfInBounds i true) K (hdc cs c) Φs (bX.put E o.dst (val x)) (L' x) (Φ' x))
  (d:∀ x,(pko cs js).Sublist (L' x):=by
   intro x;(try dsimp only [pko,List.map_cons,List.map_nil,List.getD_cons_zero,List.getD_cons_succ,List.flatten_cons,List.flatten_nil,List.cons_append,List.nil_append,List.append_assoc]);exact bQ)
  (hΦ':∀ x,A9 (Φ' x) Φs:=by intro x;exact c9) (l:A6r b o E=some true:=by rfl) (e:X6 n o.dst=true:=by rfl) (hr:Region.ready .any b a=[i]:=by kernel_rfl) (g:(hdc cs c).at (a.setIfInBounds i true)=pko cs js:=by kernel_rfl)
  (k:A4t a=A4t (a.setIfInBounds i true)+1:=by kernel_rfl):JG P n X b a K (hdc cs c) Φs E L Φ:=by
 show JH P n X b (A4t a) a K (hdc cs c) Φs E L Φ
 rw [k];exact hone i (pko cs js) _ f l e hr rfl g j d hΦ' h
def AG (P:Program) (n:Nat) (X:Cx) (c:Array Oper) (b:Array Bool) (i:Nat) (K:Act→World→Prop) (d:V2) (Φs:List Pers) (E:bX) (L:Own) (Φ:List Pers):Prop :=
 ∀ a w,St n X E L Φ a w→A2q c=true→Region.noSelect c=true→b.size=c.size→wpOpIn (FW X.rho) 0 P c (oN K) i (fun e w'=>((b.setIfInBounds i true).size=c.size∧cC X (d.at (b.setIfInBounds i true)) Φs w')∧AH X.rho P c (oN K) (fun l w=>l.size=c.size∧cC X (d.at l) Φs w) (A4t (b.setIfInBounds i true)) (b.setIfInBounds i true) e w') a w
theorem gf {c:Array Oper} {a:Array Bool} {b:V2} (i k:Nat) (g:AG P n X c a i K b Φs E L Φ) (d:AG P n X c a k K b Φs E L Φ) (hr:Region.ready .any c a=[i,k]:=by kernel_rfl)
  (f:A4t a=A4t (a.setIfInBounds i true)+1:=by kernel_rfl) (e:A4t (a.setIfInBounds k true)=A4t (a.setIfInBounds i true):=by kernel_rfl):JG P n X c a K b Φs E L Φ:=by
 show JH P n X c (A4t a) a K b Φs E L Φ
 rw [f]
 refine D3w i k hr g ?_
 unfold AG at d
 rw [e] at d
 exact d
theorem gh {b:Array Oper} {a:Array Bool} {cs:List Own} {c:List (Nat×List Nat)} (i:Nat) (js:List Nat) {o:Oper} {α:Type} {val:α→Value} {L':α→Own} {Φ':α→List Pers} (k:b[i]?=some o) (j:Tri P n X o E L Φ α val L' Φ')
  (h:∀ x,JG P n X b (a.setIfInBounds i true) K (hdc cs c) Φs (bX.put E o.dst (val x)) (L' x) (Φ' x))
  (d:∀ x,(pko cs js).Sublist (L' x):=by
   intro x;(try dsimp only [pko,List.map_cons,List.map_nil,List.getD_cons_zero,List.getD_cons_succ,List.flatten_cons,List.flatten_nil,List.cons_append,List.nil_append,List.append_assoc]);exact bQ)
  (hΦ':∀ x,A9 (Φ' x) Φs:=by intro x;exact c9) (g:A6r b o E=some true:=by rfl) (f:X6 n o.dst=true:=by rfl) (e:(hdc cs c).at (a.setIfInBounds i true)=pko cs js:=by kernel_rfl):AG P n X b a i K (hdc cs c) Φs E L Φ :=
 E4v i (pko cs js) _ k g f rfl rfl e j d hΦ' h
theorem hqV {c:Array Oper} {a:Array Bool} {b:V2} (is:List Nat) (d:bX) (g:JG P n X c (A1u a is) K b Φs (d++E) L Φ) (h:C1k P n c b is a E d=some (A1u a is,d):=by kernel_rfl) (e:A4t a=is.length+A4t (A1u a is):=by kernel_rfl):JG P n X c a K b Φs E L Φ:=by
 show JH P n X c (A4t a) a K b Φs E L Φ
 rw [e];exact F3j is _ _ d h g
theorem hq0 {c:Array Oper} {a:Array Bool} {b:V2} (is:List Nat) (g:JG P n X c (A1u a is) K b Φs E L Φ) (h:C1k P n c b is a E []=some (A1u a is,[]):=by kernel_rfl) (d:A4t a=is.length+A4t (A1u a is):=by kernel_rfl):JG P n X c a K b Φs E L Φ:=hqV is [] g h d
theorem hq1 {c:Array Oper} {a:Array Bool} {b:V2} (is:List Nat) (e:Nat) {d:Value} (i:D6p (E0l P n c is E) [(e,d)]=some [(e,d)]) (g:JG P n X c (A1u a is) K b Φs ([(e,d)]++E) L Φ) (h:C1k P n c b is a E [(e,d)]=some (A1u a is,[(e,d)]):=by kernel_rfl) (f:A4t a=is.length+A4t (A1u a is):=by kernel_rfl):JG P n X c a K b Φs E L Φ:=hqV is _ g h f
theorem hq2 {c:Array Oper} {a:Array Bool} {b:V2} (is:List Nat) (f e:Nat) {d i:Value} (k:D6p (E0l P n c is E) [(f,d),(e,i)]=some [(f,d),(e,i)]) (g:JG P n X c (A1u a is) K b Φs ([(f,d),(e,i)]++E) L Φ) (h:C1k P n c b is a E [(f,d),(e,i)]=some (A1u a is,[(f,d),(e,i)]):=by kernel_rfl) (j:A4t a=is.length+A4t (A1u a is):=by kernel_rfl):JG P n X c a K b Φs E L Φ:=hqV is _ g h j
theorem hq3 {c:Array Oper} {a:Array Bool} {b:V2} (is:List Nat) (i e k:Nat) {d j f:Value} (m:D6p (E0l P n c is E) [(i,d),(e,j),(k,f)]=some [(i,d),(e,j),(k,f)]) (g:JG P n X c (A1u a is) K b Φs ([(i,d),(e,j),(k,f)]++E) L Φ) (h:C1k P n c b is a E [(i,d),(e,j),(k,f)]=some (A1u a is,[(i,d),(e,j),(k,f)]):=by kernel_rfl) (l:A4t a=is.length+A4t (A1u a is):=by kernel_rfl):JG P n X c a K b Φs E L Φ:=hqV is _ g h l
theorem hq4 {c:Array Oper} {a:Array Bool} {b:V2} (is:List Nat) (k e m f:Nat) {d l i j:Value} (p:D6p (E0l P n c is E) [(k,d),(e,l),(m,i),(f,j)]=some [(k,d),(e,l),(m,i),(f,j)]) (g:JG P n X c (A1u a is) K b Φs ([(k,d),(e,l),(m,i),(f,j)]++E) L Φ) (h:C1k P n c b is a E [(k,d),(e,l),(m,i),(f,j)]=some (A1u a is,[(k,d),(e,l),(m,i),(f,j)]):=by kernel_rfl) (o:A4t a=is.length+A4t (A1u a is):=by kernel_rfl):JG P n X c a K b Φs E L Φ:=hqV is _ g h o
theorem hq5 {c:Array Oper} {a:Array Bool} {b:V2} (is:List Nat) (l e o f i:Nat) {d m j k p:Value} (r:D6p (E0l P n c is E) [(l,d),(e,m),(o,j),(f,k),(i,p)]=some [(l,d),(e,m),(o,j),(f,k),(i,p)]) (g:JG P n X c (A1u a is) K b Φs ([(l,d),(e,m),(o,j),(f,k),(i,p)]++E) L Φ) (h:C1k P n c b is a E [(l,d),(e,m),(o,j),(f,k),(i,p)]=some (A1u a is,[(l,d),(e,m),(o,j),(f,k),(i,p)]):=by kernel_rfl) (q:A4t a=is.length+A4t (A1u a is):=by kernel_rfl):JG P n X c a K b Φs E L Φ:=hqV is _ g h q
theorem ge {c:Array Oper} {b:Array Bool} {d:V2} {y:Code} (h:J P n X y Q E L Φ) (hr:Region.ready .any c b=[]:=by kernel_rfl):JG P n X c b (fun a w=>y.wpIn (FW X.rho) 0 P Q a w) d Φs E L Φ:=B1f hr h
theorem gdn {b:Array Oper} {a:Array Bool} {c:V2} (h:JQ n X K E L Φ) (hr:Region.ready .any b a=[]:=by kernel_rfl):JG P n X b a K c Φs E L Φ:=A2a hr h
end
section
variable {P:Program} {n:Nat} {X:Cx} {K:Act→World→Prop} {Q:Exit→Act→World→Prop} {E E':bX} {L L':Own} {Φ Φ' Φs:List Pers}
theorem pk_ {L L0 L2:Own} (h:PkP L L0 L2:=by repeat' first|with_reducible exact pk0|with_reducible apply pkc|with_reducible apply pkv|with_reducible exact re0|with_reducible exact rv0|with_reducible apply re1|with_reducible apply re2|with_reducible apply rv1|with_reducible apply rv2):PkP L L0 L2:=h
theorem F4t {M L:Own} (h:SrP M L:=by
   refine sr4 ond ?_
   repeat' first|with_reducible exact sr0|with_reducible apply sr1|with_reducible apply sr2|with_reducible apply in1|with_reducible exact in0|exact sr3):SrP M L:=h
theorem E8k {cs:List Own} {a:List Nat} {L:Own} (h:(pko cs a).Sublist L:=by
   (try dsimp only [pko,List.map_cons,List.map_nil,List.getD_cons_zero,List.getD_cons_succ,List.flatten_cons,List.flatten_nil,List.cons_append,List.nil_append,List.append_assoc]);exact bQ):(pko cs a).Sublist L:=h
theorem ph_ {Φ1 Φ Φ3:List Pers} (h:Φ1++Φ=Φ3:=by first|exact List.nil_append _|(simp only [List.nil_append,List.cons_append];exact rfl)|exact rfl):Φ1++Φ=Φ3:=h
theorem gc {b:Array Oper} {a:Array Bool} {cs:List Own} {l:List (Nat×List Nat)} (i:Nat) (js:List Nat) {k:FuncId} {args:List Value} {d:Option Nat} {L0 L2:Own} {Φ0:List Pers} {α:Type} {val:α→Value} {L1:α→Own} {Φ1:α→List Pers} {L3:α→Own} {Φ3:α→List Pers}
  (r:C4q n b i E=some (k,args,d)) (e:cI P k args L0 Φ0 α val L1 Φ1) (h:∀ x,JG P n X b (a.setIfInBounds i true) K (hdc cs l) Φs (bX.put E d (val x)) (L3 x) (Φ3 x))
  (w:PkP L L0 L2:=by exact pk_) (f:∀ x,SrP (L1 x++L2) (L3 x):=by intro _;exact F4t) (hΦ:A9 Φ Φ0:=by exact c9) (hΦ3:∀ x,Φ1 x++Φ=Φ3 x:=by intro _;exact ph_)
  (g:∀ x,(pko cs js).Sublist (L3 x):=by intro _;exact E8k) (hΦ':∀ x,A9 (Φ3 x) Φs:=by intro _;exact c9) (hr:Region.ready .any b a=[i]:=by kernel_rfl) (p:(hdc cs l).at (a.setIfInBounds i true)=pko cs js:=by kernel_rfl)
  (v:A4t a=A4t (a.setIfInBounds i true)+1:=by kernel_rfl):JG P n X b a K (hdc cs l) Φs E L Φ:=by
 obtain ⟨o,c,z,first,cap,y,j,t,s,q,u,m,rfl⟩:=A7f r
 obtain rfl:(fun x=>Φ1 x++Φ)=Φ3:=funext hΦ3
 exact go i js (L6 j).1 (J7 e t s q u m hΦ w L3 f) h g hΦ' (L6 j).2.1 (L6 j).2.2 hr p v
theorem ghc {b:Array Oper} {a:Array Bool} {cs:List Own} {j:List (Nat×List Nat)} (i:Nat) (js:List Nat) {k:FuncId} {args:List Value} {d:Option Nat} {L0 L2:Own} {Φ0:List Pers} {α:Type} {val:α→Value} {L1:α→Own} {Φ1:α→List Pers} {L3:α→Own} {Φ3:α→List Pers}
  (q:C4q n b i E=some (k,args,d)) (e:cI P k args L0 Φ0 α val L1 Φ1) (h:∀ x,JG P n X b (a.setIfInBounds i true) K (hdc cs j) Φs (bX.put E d (val x)) (L3 x) (Φ3 x))
  (v:PkP L L0 L2:=by exact pk_) (f:∀ x,SrP (L1 x++L2) (L3 x):=by intro _;exact F4t) (hΦ:A9 Φ Φ0:=by exact c9) (hΦ3:∀ x,Φ1 x++Φ=Φ3 x:=by intro _;exact ph_)
  (l:∀ x,(pko cs js).Sublist (L3 x):=by intro _;exact E8k) (hΦ':∀ x,A9 (Φ3 x) Φs:=by intro _;exact c9) (s:(hdc cs j).at (a.setIfInBounds i true)=pko cs js:=by kernel_rfl):AG P n X b a i K (hdc cs j) Φs E L Φ:=by
 obtain ⟨o,c,y,first,cap,w,g,t,r,p,u,m,rfl⟩:=A7f q
 obtain rfl:(fun x=>Φ1 x++Φ)=Φ3:=funext hΦ3
 exact gh i js (L6 g).1 (J7 e t r p u m hΦ v L3 f) h l hΦ' (L6 g).2.1 (L6 g).2.2 s
theorem gv {b:Array Oper} {a:Array Bool} {cs:List Own} {g:List (Nat×List Nat)} (i:Nat) (js:List Nat) {k:FuncId} {args:List Value} {d:Option Nat} {Φ0:List Pers} {v:Value} (p:C4q n b i E=some (k,args,d)) (e:J5 P k args Φ0 v)
  (h:JG P n X b (a.setIfInBounds i true) K (hdc cs g) Φs (bX.put E d v) L Φ) (hΦ:A9 Φ Φ0:=by exact c9) (j:(pko cs js).Sublist L:=by exact E8k) (hΦ':A9 Φ Φs:=by exact c9) (hr:Region.ready .any b a=[i]:=by kernel_rfl) (r:(hdc cs g).at (a.setIfInBounds i true)=pko cs js:=by kernel_rfl)
  (u:A4t a=A4t (a.setIfInBounds i true)+1:=by kernel_rfl):JG P n X b a K (hdc cs g) Φs E L Φ:=by
 obtain ⟨o,c,x,first,cap,w,f,s,q,m,t,l,rfl⟩:=A7f p
 exact go i js (L6 f).1 (Det.tri (A8n e s q m t l hΦ)) (fun _=>h) (fun _=>j) (fun _=>hΦ') (L6 f).2.1 (L6 f).2.2 hr r u
theorem ghv {b:Array Oper} {a:Array Bool} {cs:List Own} {g:List (Nat×List Nat)} (i:Nat) (js:List Nat) {k:FuncId} {args:List Value} {d:Option Nat} {Φ0:List Pers} {v:Value} (p:C4q n b i E=some (k,args,d)) (e:J5 P k args Φ0 v)
  (h:JG P n X b (a.setIfInBounds i true) K (hdc cs g) Φs (bX.put E d v) L Φ) (hΦ:A9 Φ Φ0:=by exact c9) (j:(pko cs js).Sublist L:=by exact E8k) (hΦ':A9 Φ Φs:=by exact c9) (r:(hdc cs g).at (a.setIfInBounds i true)=pko cs js:=by kernel_rfl):AG P n X b a i K (hdc cs g) Φs E L Φ:=by
 obtain ⟨o,c,w,first,cap,u,f,s,q,m,t,l,rfl⟩:=A7f p
 exact gh i js (L6 f).1 (Det.tri (A8n e s q m t l hΦ)) (fun _=>h) (fun _=>j) (fun _=>hΦ') (L6 f).2.1 (L6 f).2.2 r
def Upd (L:Own) (j:Nat) (e:Nat×Obj) (L':Own):Prop:=L.set j e=L'
theorem up0 {x e:Nat×Obj}:Upd (x::L) 0 e (e::L):=rfl
theorem up1 {x e:Nat×Obj} {j:Nat} (h:Upd L j e L'):Upd (x::L) (j+1) e (x::L'):=by unfold Upd at *;simp [h]
theorem F5c {L L':Own} {j:Nat} {e:Nat×Obj} (h:Upd L j e L':=by repeat' first|with_reducible exact up0|with_reducible apply up1|exact up0|apply up1):Upd L j e L':=h
theorem zra {d:Array Oper} {i:Nat} {m:Nat} (k:Nat) (e:List Nat) (a:Nat→bX) (c:Nat→List Value) (T:Nat) (g:∀ b,JI P n X d (i+k) m K Q (a b++E) (bx b (c b) T::L) Φ) (h:∀ b,exL P n d k i e [b] E L (a b)=some (a b,bx b (c b) T::L,exS P n d k i e [b] E L):=by intros;kernel_rfl):JI P n X d i (m+k) K Q E L Φ :=
 Nat.add_comm k m▸B2b k m e a _ g h
theorem A8c {f:Array Oper} {i:Nat} {m:Nat} (k:Nat) (j:List Nat) (a:Nat→Nat→bX) (c d:Nat→Nat→List Value) (T U:Nat) (g:∀ b e,JI P n X f (i+k) m K Q (a b e++E) (bx e (d b e) U::bx b (c b e) T::L) Φ) (h:∀ b e,exL P n f k i j [b,e] E L (a b e)=some (a b e,bx e (d b e) U::bx b (c b e) T::L,exS P n f k i j [b,e] E L):=by intros;kernel_rfl):JI P n X f i (m+k) K Q E L Φ :=
 Nat.add_comm k m▸E9d k m j a _ g h
theorem zru {b:Array Oper} {i:Nat} {m:Nat} (k:Nat) (c:List Nat) (a:bX) (j:Nat) (e:Nat×Obj) {L':Own} (g:JI P n X b (i+k) m K Q (a++E) L' Φ) (d:Upd L j e L':=by exact F5c) (h:exL P n b k i c [] E L a=some (a,L',exS P n b k i c [] E L):=by kernel_rfl):JI P n X b i (m+k) K Q E L Φ :=
 Nat.add_comm k m▸zrg k m c a L' g h
end
section
variable {ρ:Option Nat} {P:Program} {ops:Array Oper}
def B1s (a:Array Oper):Nat→Nat→Nat→Bool
 | 0,i,e=>B8v a i e
 | k+1,i,e=>B8v a i e||(List.range a.size).any fun j=>B8v a i j&&B1s a k j e
theorem D9e {k i e:Nat} (h:B8v ops i e=true):B1s ops k i e=true:=by
 cases k with
 | zero=>exact h
 | succ k=>unfold B1s;rw [h];rfl
theorem B8a {i e:Nat} {listed:Array Bool} (b:B8v ops i e=true) (k:listed.getD i false=false):e ∉ Region.ready .any ops listed:=by
 intro h
 obtain ⟨_,o,j,a⟩:=mem_ready.1 h
 unfold B8v at b
 rw [j] at b
 simp only [Array.any_eq_true',Bool.and_eq_true,beq_iff_eq] at b
 obtain ⟨d,f,g,l⟩:=b
 have c:=a d f l
 rw [g,k] at c
 cases c
theorem B8e:∀ (k:Nat) {i e:Nat} {a:Array Bool},(∀ j,B1s ops k i j=true→a.getD j false=false)→a.getD i false=false→B1s ops k i e=true→e ∉ Region.ready .any ops a
 | 0,i,e,a,_,hi,b=>B8a b hi
 | k+1,i,e,a,hall,hi,b=>by
  unfold B1s at b
  rcases Bool.or_eq_true_iff.1 b with b | b
  ·exact B8a b hi
  ·obtain ⟨j,g,h⟩:=List.any_eq_true.1 b
   obtain ⟨c,d⟩:=Bool.and_eq_true_iff.1 h
   refine B8e k (fun m f=>hall m ?_) (hall j (D9e c)) d
   unfold B1s
   rw [Bool.or_eq_true]
   exact .inr (List.any_eq_true.2 ⟨j,g,by rw [c,f];rfl⟩)
theorem D6r:∀ {k i e:Nat},B1s ops k i e=true→e<ops.size
 | 0,_,_,h=>D5f h
 | k+1,i,e,h=>by
  unfold B1s at h
  rcases Bool.or_eq_true_iff.1 h with h | h
  ·exact D5f h
  ·obtain ⟨j,_,h⟩:=List.any_eq_true.1 h
   exact D6r (Bool.and_eq_true_iff.1 h).2
theorem E2a {l:Array Bool} {i:Nat} (h:l.getD i true=false):l.getD i false=false:=by
 rcases Nat.lt_or_ge i l.size with h' | h'
 ·simp [h'] at h ⊢;exact h
 ·simp [Array.getElem?_eq_none h'] at h
theorem E3v {Q:Exit→Act→World→Prop} {S:Array Bool→World→Prop} {i q:Nat} {oi:Oper} {v:Value} (u:A2q ops=true) (hi:ops[i]?=some oi) (p:∀ (j:Nat) (o:Oper) cs b,ops[j]?=some o→o.op≠.select cs b)
  (hQ:∀ c a w,Q (.panic c) (a.put oi.dst v) w→Q (.panic c) a w) (Y:World→Prop) (z:∀ (d:Array Bool) w,S (d.setIfInBounds i true) w ↔ S d w) (hY:∀ d:Array Bool,(∀ e,B1s ops q i e=true→d.getD e false=false)→∀ w,S d w→Y w) :
  ∀ (g:Nat) (d:Array Bool) (a:Act) (w:World),
   (∀ j x,ops[j]?=some x→j≠i→d.getD j true=false→(∀ e ∈ x.after,Region.binds .any e=true→e.on≠i)→oi.apart ops x=true) →
   (∀ e,B1s ops q i e=true→d.getD e false=false) →
   i ∈ Region.ready .any ops d→YieldsIf P ops Y oi v a→S d w →
   AH ρ P ops Q S g (d.setIfInBounds i true) (a.put oi.dst v) w→AH ρ P ops Q S (g+1) d a w:=by
 intro g
 induction g with
 | zero =>
  intro d a w _ f hr hy hS H
  refine ⟨fun h=>(by rw [h] at hr;cases hr),fun j hj=>?_⟩
  by_cases hji:j=i
  ·subst hji;exact C0l u hi hy (hY _ f _ hS) ⟨(z _ _).2 hS,H⟩
  ·have:=ready_mono hj hji
   rw [H.1] at this
   cases this
 | succ g ih =>
  intro d a w l f hr hy hS H
  refine ⟨fun h=>(by rw [h] at hr;cases hr),fun j hj=>?_⟩
  by_cases hji:j=i
  ·subst hji;exact C0l u hi hy (hY _ f _ hS) ⟨(z _ _).2 hS,H⟩
  ·have h1:=H.2 j (ready_mono hj hji)
   obtain ⟨r,x,t,a4⟩:=mem_ready.1 hj
   have s:=(mem_ready.1 hr).1
   have a5:∀ e ∈ x.after,Region.binds .any e=true→e.on≠i:=fun e he hb aa=>by
    have h1:=a4 e he hb
    rw [aa,E2a s] at h1
    cases h1
   have h2:=D1g u t (l j x t hji r a5) (fun cs b=>p i oi cs b hi) (fun cs b=>p j x cs b t) hQ hy h1
   have n:∀ k ok,ops[k]?=some ok→k≠i→(d.setIfInBounds j true).getD k true=false →
     (∀ e ∈ ok.after,Region.binds .any e=true→e.on≠i)→oi.apart ops ok=true:=fun k ok hk ac a2 ab=>by
    refine l k ok hk ac ?_ ab
    by_cases hjk:j=k
    ·subst hjk;exact r
    ·rw [getD_set_ne true hjk] at a2;exact a2
   have m:∀ e,B1s ops q i e=true→(d.setIfInBounds j true).getD e false=false:=fun e he=>by
    by_cases hje:j=e
    ·subst hje;exact absurd hj (B8e q f (E2a s) he)
    ·rw [getD_set_ne false hje];exact f e he
   refine B7n (fun a' w' h3=>?_) h2
   obtain ⟨y,hs,hh⟩:=h3
   rw [Array.setIfInBounds_comm _ _ (Ne.symm hji)] at hs hh
   have a1:=(z _ _).1 hs
   exact ⟨a1,ih (d.setIfInBounds j true) a' w' n m (ready_mono hr (Ne.symm hji)) y a1 hh⟩
end
section
variable {P:Program} {n:Nat} {X:Cx} {K:Act→World→Prop} {Q:Exit→Act→World→Prop} {E E':bX} {L L' Ls:Own} {Φ Φ' Φs:List Pers}
def V2.ofN (a:V2) (b:Array Oper) (i:Nat):Own:=((a.filter fun p=>B1s b 4 i p.1||!(Nat.blt p.1 b.size)).map (·.2)).flatten
theorem V2.ofN_at {c:V2} {b:Array Oper} {i:Nat} {a:Array Bool} (g:a.size≤b.size) (h:∀ e,B1s b 4 i e=true→a.getD e false=false):(c.ofN b i).Sublist (c.at a):=by
 refine B9f ((C2y _ fun x _ d=>?_).map _)
 simp only [Bool.or_eq_true,Bool.not_eq_true'] at d ⊢
 rcases d with d | d
 ·exact h _ d
 ·have:¬ x.1<b.size:=fun f=>by have:=Nat.ble_eq_true_of_le f;unfold Nat.blt at d;rw [d] at this;cases this
  simp [Array.getElem?_eq_none (show a.size≤x.1 by omega)]
def D7l (b:Array Oper) (c:V2) (a:Array Bool) (i:Nat):Bool:=Region.free .any b a i&&(Region.ready .any b a).contains i&&(c.all (fun p=>!(p.1 == i)))&&(List.range b.size).all fun e=>!(B1s b 4 i e)||!(a.getD e false)
theorem E0v {d:Array Oper} {g:Nat} {b:Array Bool} {f:V2} (i:Nat) {o:Oper} {v:Value} (Ls:Own) (listed':Array Bool) (r:d[i]?=some o) (z:I6 P X o E Ls Φs v) (h:JH P n X d g listed' K f Φs (bX.put E o.dst v) L Φ)
  (hg:A6r d o E=some true:=by rfl) (u:X6 n o.dst=true:=by rfl) (s:D7l d f b i=true:=by kernel_rfl) (p:f.ofN d i=Ls:=by kernel_rfl) (m:b.setIfInBounds i true=listed':=by kernel_rfl):JH P n X d (g+1) b K f Φs E L Φ:=by
 subst m
 exact ⟨fun h1 h2 hsz hL hΦ a w hs=>by
  simp only [D7l,Bool.and_eq_true] at s
  obtain ⟨⟨⟨t1,y⟩,q⟩,x⟩:=s
  have j:∀ e,B1s d 4 i e=true→b.getD e false=false:=fun e t=>by
   have:=List.all_eq_true.1 x e (List.mem_range.2 (D6r t))
   rw [t] at this;simpa using this
  refine E3v (Y:=cC X Ls Φs) h1 r (Region.noSelect_spec h2) (fun c a w hq=>hq) (fun l w=>by rw [V2.at_set q];simp) (fun l m w k=>?_) g b a w (Region.free_spec r t1) j (by simpa using y) (.inl ⟨A0o hs.has hg,fun w k=>z a w hs.has k⟩) ⟨hsz,(hs.world.sub hL).foll hΦ⟩ (h.go h1 h2 (by simpa using hsz) (by rw [V2.at_set q];exact hL) hΦ _ w (hs.put u v hs.world))
  exact k.2.sub (p▸V2.ofN_at (Nat.le_of_eq k.1) m)⟩
end
theorem F0l {α:Type} {c:α→List Value} {x b a:α} {us:List Value} {f k:Nat} (h:k<2) (e:Z4 (c x) us f=c b) (d:Z4 (c x) us (f+1)=c a):Z4 (c x) us (f+k)=c (bif Nat.beq k 0 then b else a):=by
 match k,h with
 | 0,_=>exact e
 | 1,_=>exact d
theorem E9t {f k m:Nat} (h:f+k+1≤m):Nat.ble (f+k+1) m=true:=Nat.ble_eq_true_of_le h
section
variable {P:Program} {X:Cx} {E:bX} {L:Own} {Φ:List Pers}
theorem D6o {o:Oper} {T e sz a b off:Nat} {agg:Bool} {x y:Operand} {m:Int} (j:P.underlying T=some (.array a e)) (i:Ty P e sz agg) (c:o.op=.indexAddr T x y)
  (f:ev E x=some (.pointer (some ⟨b,off,none⟩))) (g:ev E y=some (.int .i64 m)) (k:Nat) (h:m=k) (d:k<a):I6 P X o E L Φ (.pointer (some ⟨b,off+k * sz,none⟩)) :=
 A2o j i c f g k h (Nat.ble_eq_true_of_le d)
end
end Go.Fen
namespace Go.Proofs.YtfcdnnheppnbaaaGreatDoor
open Go Go.Fen
theorem C7l (w:World) :
  CallsD Tryz.prog 181 #[] (.panicking [{v:=A0y,recovered:=false}]) w fun e u' w' =>
   e=.returned (.tuple #[])∧u'=.panicking [{v:=A0y,recovered:=true}]∧w'=w:=by
 refine callsD_of_wpS Tryz.func181 rfl fun b cs a=>?_
 apply wpS_seq
 apply wpS_region
 simp [wpOpsS,go_sem,recoverD,a,Tryz.ntmps181,Exit.thenS]
 apply wpS_seq
 apply wpS_region
 simp [wpOpsS,go_sem,recoverD,a,Tryz.ntmps181,Exit.thenS]
 refine wpS_cond (t:=true) (by simp [Act.eval,Array.replicate]) ?_
 simp only [if_true]
 apply wpS_region
 simp [wpOpsS,go_sem,bodyPostS,results,Tryz.results181,Instr.typeAssert]
theorem E0c (w:World) :
  CallsD Tryz.prog 181 #[] .returning w fun e u' w'=>e=.returned (.tuple #[])∧u'=.returning∧w'=w:=by
 refine callsD_of_wpS Tryz.func181 rfl fun b cs a=>?_
 apply wpS_seq
 apply wpS_region
 simp [wpOpsS,go_sem,recoverD,a,Tryz.ntmps181,Exit.thenS]
 apply wpS_seq
 apply wpS_region
 simp [wpOpsS,go_sem,recoverD,a,Tryz.ntmps181,Exit.thenS]
 refine wpS_cond (t:=false) (by simp [Act.eval,Array.replicate]) ?_
 simp only [Bool.false_eq_true,if_false]
 refine wpS_of_wp (wp_skip ?_)
 cases b
 simp_all [bodyPostS,results,Tryz.results181]
def B1m (R:Option (List UInt8)):List UInt8×Bool:=match R with | some s=>(s,true) | none=>([],false)
theorem D9f {k:FuncId} {cap:List Value} {L0:Fen.Own} {Φ0:List Pers} (R:Option (List UInt8)) (h:C3c Tryz.prog k cap L0 Φ0 A0y R (fun s=>.string (bs s))) :
  cI Tryz.prog 97 [.func (.func k) #[] cap.toArray] L0 Φ0 Unit (fun _=>.tuple #[.string (bs (B1m R).1),.bool (B1m R).2]) (fun _=>[]) (fun _=>[]):=by
 refine ⟨⟨by kernel_rfl⟩,fun w b n m l=>?_⟩
 have i:=h.2 w b n m l
 have j:=h.1
 have o:∀ w:World,(callFunc k cap.toArray).run Tryz.prog w=.ok (.enter k cap.toArray) w:=fun w=>A1y j _ w
 cases R with
 | none =>
  have a:Calls Tryz.prog k cap.toArray w fun e w'=>e=.panicked [{v:=A0y,recovered:=false}]∧cC (cx w b (L0.map Prod.fst)) [] [] w':=i.mono fun e w' ⟨g,c⟩=>⟨c,g⟩
  go_enter_defers Tryz.func97,Tryz.ntmps97
  go_wp2_with (refine a.mono ?_;rintro e w' ⟨rfl,hw⟩)
  refine leaves_cons (f:=181) (args:=#[]) oom (by simp [go_sem]) ?_
  refine (C7l _).mono ?_
  rintro e u' d ⟨rfl,rfl,rfl⟩
  simpa [Leaves,settle,results,Tryz.results97,go_sem,B1m] using hw
 | some s =>
  have a:Calls Tryz.prog k cap.toArray w fun e w'=>e=.returned (.string (bs s))∧cC (cx w b (L0.map Prod.fst)) [] [] w':=i.mono fun e w' ⟨g,c⟩=>⟨c,g⟩
  go_enter_defers Tryz.func97,Tryz.ntmps97
  go_wp2_with (refine a.mono ?_;rintro e w' ⟨rfl,hw⟩)
  refine leaves_cons (f:=181) (args:=#[]) oom (by simp [go_sem]) ?_
  refine (E0c _).mono ?_
  rintro e u' d ⟨rfl,rfl,rfl⟩
  simpa [Leaves,settle,results,Tryz.results97,go_sem,B1m] using hw
end Go.Proofs.YtfcdnnheppnbaaaGreatDoor
namespace Go.Proofs.YtfcdnnheppnbaaaGreatDoor
open Go Go.Fen Go.RowKit
set_option maxHeartbeats 1000000 in
theorem D0g (b:Nat) (w:World) (c:w.cell? ⟨b,0,none⟩=some (.pointer (some ⟨b,0,none⟩))) :
  Calls Tryz.prog 277 #[.pointer (some ⟨b,0,none⟩)] w fun e w'=>e=.returned (.tuple #[])∧w'=w:=by
 obtain ⟨j,a,_⟩:=Option.map_eq_some_iff.1 (show (Tryz.prog.info? 270).map (·.size)=some 2 by kernel_rfl)
 go_enter Tryz.func277,Tryz.ntmps277
 go_wp2
 rw [Lib.run_neq_ptr_same w _ Tryz.underlying268 a]
 go_wp2
 go_end0
 exact ⟨rfl,rfl⟩
theorem oki {p:Prop} (h:p:=by kernel_rfl):p:=h
set_option maxHeartbeats 1000000 in
theorem C7o (b:Nat) (w:World) (g:w.cell? ⟨b,0,none⟩=some (.pointer none)) (a:w.shape? b=some (270,2)) (f:w.frozen? ⟨b,0,none⟩=false) :
  Calls Tryz.prog 277 #[.pointer (some ⟨b,0,none⟩)] w fun e w'=>e=.returned (.tuple #[])∧w'=w.setCell ⟨b,0,none⟩ (.pointer (some ⟨b,0,none⟩)):=by
 obtain ⟨j,d,c⟩:=Option.map_eq_some_iff.1 (show (Tryz.prog.info? 270).map (·.size)=some 2 by kernel_rfl)
 go_enter Tryz.func277,Tryz.ntmps277
 go_wp2
 rw [Lib.run_to_unsafe w ⟨b,0,none⟩ Tryz.underlying268 Tryz.underlying353 d (by rw [c];decide) a (Nat.zero_lt_succ 1)]
 simp only [Result.andThen]
 rw [Oper.upon_value]
 go_wp2
 rw [run_callFunc_extern Tryz.func311 oki oki oki (e:=Extern.AbiNoEscape.same) oki]
 rw [Lib.run_noEscape]
 simp only [Result.andThen]
 rw [Oper.upon_value]
 go_wp2
 rw [Lib.run_from_unsafe w ⟨b,0,none⟩ Tryz.underlying353 Tryz.underlying268 d a oki]
 simp only [Result.andThen]
 rw [Oper.upon_value]
 go_wp2
 go_end0
 exact ⟨rfl,rfl⟩
theorem B0t {M:List Nat} (w:World):KeptBut M w w.drew:=⟨rfl,rfl,rfl,Nat.le_refl _,fun _ _ _=>rfl⟩
theorem C9w {M:List Nat} {a w:World} {g:Nat} (h:KeptBut M a w) (b:g ∈ M) (n:Nat):KeptBut M a (w.freeze ⟨g,0,none⟩ n):=by
 refine h.trans ?_
 unfold World.freeze
 split
 ·exact KeptBut.refl M w
 ·exact ⟨rfl,rfl,rfl,by simp,fun k d c=>by
   simp only [Array.getElem?_modify]
   rw [if_neg (by rintro rfl;exact c b)]⟩
set_option maxHeartbeats 1000000 in
theorem D6a (b g cap:Nat) (p:Value) (cur:Array Value) (l:List UInt8) (w:World) (i:l≠[]) (f:w.heap[b]?=some (.cells #[p,.slice (some ⟨g,0,none⟩) l.length cap] 270 (0,0))) (k:w.heap[g]?=some (.cells cur 5 (0,0)))
  (m:l.length≤cap) (d:cap≤maxLen) (o:cur.size=cap) (a:∀ (j:Nat) (x:UInt8),l[j]?=some x→cur[j]?=some (Value.int .u8 (x.toNat:Int))) :
  Calls Tryz.prog 232 #[.pointer (some ⟨b,0,none⟩)] w fun e w'=>e=.returned (.string ⟨l.toArray⟩)∧KeptBut [b,g] w w':=by
 have q:l.length≠0:=by simpa using i
 have c1:w.drew.cell? ⟨b,1,none⟩=some (.slice (some ⟨g,0,none⟩) l.length cap):=by
  have:w.drew.heap[b]?=some (.cells #[p,.slice (some ⟨g,0,none⟩) l.length cap] 270 (0,0)):=f
  rw [Lib.cell_of_heap this];rfl
 have s:(Builtin.unsafeSliceData_ #[103] 326 #[.slice (some ⟨g,0,none⟩) l.length cap]).run Tryz.prog w.drew=.ok (.pointer (some ⟨g,0,none⟩)) w.drew :=
  Lib.run_unsafeSliceData_row _ _ _ _ _ _ opx
 have r:(Builtin.unsafeString_ #[326,3] 9 #[.pointer (some ⟨g,0,none⟩),.int .i64 l.length]).run Tryz.prog w.drew=.ok (.string ⟨l.toArray⟩) (w.drew.freeze ⟨g,0,none⟩ l.length):=by
  refine Lib.run_unsafeString_row w.drew 326 3 9 5 Tryz.underlying326 oki g cur.size (by have c:w.drew.heap[g]?=some (.cells cur 5 (0,0)):=k;simp [World.shape?,c]) l i opx (by unfold maxLen at d;omega) ?_
  intro j x n
  have c:w.drew.heap[g]?=some (.cells cur 5 (0,0)):=k
  rw [Addr.add_lit,Nat.zero_add,Lib.cell_of_heap c]
  exact a j x n
 have h:Tryz.prog.follows .mixedOrders=true:=by kernel_rfl
 go_enter Tryz.func232,Tryz.ntmps232
 go_wp2
 go_region_o
 all_goals (go_wp2;go_ret;exact ⟨rfl,C9w (B0t w) oom _⟩)
set_option maxHeartbeats 2000000 in
theorem E1c (b:Nat) (p:Value) (w:World) (a:w.heap[b]?=some (.cells #[p,.slice none 0 0] 270 (0,0))) :
  Calls Tryz.prog 232 #[.pointer (some ⟨b,0,none⟩)] w fun e w'=>e=.returned (.string ⟨#[]⟩)∧KeptBut [b] w w':=by
 have d:=fun (W:World) (q:Option Addr)=>Lib.run_unsafeString_none (P:=Tryz.prog) W 326 3 9 q
 have c1:w.drew.cell? ⟨b,1,none⟩=some (.slice none 0 0):=by
  have:w.drew.heap[b]?=some (.cells #[p,.slice none 0 0] 270 (0,0)):=a
  rw [Lib.cell_of_heap this];rfl
 have f:(Builtin.unsafeSliceData_ #[103] 326 #[.slice none 0 0]).run Tryz.prog w.drew=.ok (.pointer none) w.drew:=rfl
 have c:Tryz.prog.follows .mixedOrders=true:=by kernel_rfl
 go_enter Tryz.func232,Tryz.ntmps232
 go_wp2
 go_region_o
 all_goals (go_wp2;go_ret;exact ⟨rfl,B0t w⟩)
set_option maxHeartbeats 2000000 in
theorem D1u (b g:Nat) (p:Value) (cur:Array Value) (w:World) (a:w.heap[b]?=some (.cells #[p,.slice (some ⟨g,0,none⟩) 0 0] 270 (0,0))) (j:w.heap[g]?=some (.cells cur 5 (0,0))) :
  Calls Tryz.prog 232 #[.pointer (some ⟨b,0,none⟩)] w fun e w'=>e=.returned (.string ⟨#[]⟩)∧KeptBut [b,g] w w':=by
 have h:=fun (W:World) (q:Option Addr)=>Lib.run_unsafeString_none (P:=Tryz.prog) W 326 3 9 q
 have d:b<w.heap.size:=by
  rcases Nat.lt_or_ge b w.heap.size with h' | h'
  ·exact h'
  ·simp [Array.getElem?_eq_none h'] at a
 have c1:w.drew.cell? ⟨b,1,none⟩=some (.slice (some ⟨g,0,none⟩) 0 0):=by
  have:w.drew.heap[b]?=some (.cells #[p,.slice (some ⟨g,0,none⟩) 0 0] 270 (0,0)):=a
  rw [Lib.cell_of_heap this];rfl
 have i:(Builtin.unsafeSliceData_ #[103] 326 #[.slice (some ⟨g,0,none⟩) 0 0]).run Tryz.prog w.drew=.ok (.pointer (some ⟨w.drew.heap.size,0,none⟩)) (w.drew.alloc (.view ⟨g,0,none⟩ 5)) :=
  Lib.run_unsafeSliceData_zero w.drew _ _ 5 Tryz.underlying326 ⟨g,0,none⟩ 0 (5,cur.size) (by have c:w.drew.heap[g]?=some (.cells cur 5 (0,0)):=j;simp [World.shape?,c])
 have c2:(w.drew.alloc (.view ⟨g,0,none⟩ 5)).cell? ⟨b,1,none⟩=some (.slice (some ⟨g,0,none⟩) 0 0):=by
  have:(w.drew.alloc (.view ⟨g,0,none⟩ 5)).heap[b]?=_:=(Lib.alloc_old w.drew _ b d).trans a
  rw [Lib.cell_of_heap this];rfl
 have k:(w.alloc (.view ⟨g,0,none⟩ 5)).drew.cell? ⟨b,1,none⟩=some (.slice (some ⟨g,0,none⟩) 0 0):=c2
 have c0:w.cell? ⟨b,1,none⟩=some (.slice (some ⟨g,0,none⟩) 0 0):=c1
 have f:Tryz.prog.follows .mixedOrders=true:=by kernel_rfl
 go_enter Tryz.func232,Tryz.ntmps232
 go_wp2
 go_region_o
 all_goals (go_wp2;go_ret;exact ⟨rfl,(B0t w).alloc _⟩)
set_option maxHeartbeats 2000000 in
theorem D6g (b g cap:Nat) (p:Value) (w:World) (a:cap≠0) (c:w.heap[b]?=some (.cells #[p,.slice (some ⟨g,0,none⟩) 0 cap] 270 (0,0))) :
  Calls Tryz.prog 232 #[.pointer (some ⟨b,0,none⟩)] w fun e w'=>e=.returned (.string ⟨#[]⟩)∧KeptBut [b,g] w w':=by
 have f:=fun (W:World) (q:Option Addr)=>Lib.run_unsafeString_none (P:=Tryz.prog) W 326 3 9 q
 have c1:w.drew.cell? ⟨b,1,none⟩=some (.slice (some ⟨g,0,none⟩) 0 cap):=by
  have:w.drew.heap[b]?=some (.cells #[p,.slice (some ⟨g,0,none⟩) 0 cap] 270 (0,0)):=c
  rw [Lib.cell_of_heap this];rfl
 have h:(Builtin.unsafeSliceData_ #[103] 326 #[.slice (some ⟨g,0,none⟩) 0 cap]).run Tryz.prog w.drew=.ok (.pointer (some ⟨g,0,none⟩)) w.drew :=
  Lib.run_unsafeSliceData_row _ _ _ _ _ _ a
 clear a
 have d:Tryz.prog.follows .mixedOrders=true:=by kernel_rfl
 go_enter Tryz.func232,Tryz.ntmps232
 go_wp2
 go_region_o
 all_goals (go_wp2;go_ret;exact ⟨rfl,B0t w⟩)
theorem st0 {L0:Fen.Own} {h:Hp} {w:World} (f:h.sub w) (j:A2i L0 h w):cC (cx w h (L0.map Prod.fst)) L0 [] w :=
 ⟨h,⟨fun q g=>(by cases g),f,Hp.le_refl _,fun b c=>.inl c,j,fun e i=>.inl (List.mem_map_of_mem i),KeptBut.refl _ _,fun d a=>by cases a⟩⟩
theorem D7o (b:Nat) (v:Value):cI Tryz.prog 277 [pt b 0] [bx b [.pointer none,v] 270] [] Unit (fun _=>.tuple #[]) (fun _=>[bx b [pt b 0,v] 270]) (fun _=>[]):=by
 refine ⟨⟨by kernel_rfl⟩,fun w h m g d=>?_⟩
 have a:=(d.1 _ (List.mem_singleton.2 rfl)).1
 simp only at a
 have f:=st0 g d
 refine (C7o b w (by rw [Lib.cell_of_heap a];rfl) (by simp [World.shape?,a]) (Lib.frozen_of_heap a 0)).mono ?_
 rintro e w' ⟨rfl,rfl⟩
 refine ⟨(),rfl,?_⟩
 have c:w.setCell ⟨b,0,none⟩ (.pointer (some ⟨b,0,none⟩))=w.setRow b #[pt b 0,v]:=by
  have:=setRow_heap w b #[Value.pointer none,v] #[pt b 0,v] 270 (0,0) a
  simp only [World.setCell,World.setRow]
  congr 1
  apply Array.ext_getElem?
  intro i
  simp only [Array.getElem?_modify]
  split
  ·rename_i l;subst l;simp [a]
  ·rfl
 rw [c]
 exact f.set (i:=0) rfl (setRow_heap w b _ _ 270 (0,0) a) (fun k j=>setRow_other w b k _ j) rfl rfl rfl oom
theorem D8e (b:Nat) (v:Value):cI Tryz.prog 277 [pt b 0] [bx b [pt b 0,v] 270] [] Unit (fun _=>.tuple #[]) (fun _=>[bx b [pt b 0,v] 270]) (fun _=>[]):=by
 refine ⟨⟨by kernel_rfl⟩,fun w h g d c=>?_⟩
 have a:=(c.1 _ (List.mem_singleton.2 rfl)).1
 simp only at a
 have f:=st0 d c
 refine (D0g b w (by rw [Lib.cell_of_heap a];rfl)).mono ?_
 rintro e w' ⟨rfl,rfl⟩
 exact ⟨(),rfl,f⟩
theorem F3d {L0:Fen.Own} {h:Hp} {w w':World} (g:h.sub w) (m:A2i L0 h w) (i:KeptBut (L0.map Prod.fst) w w'):cC (cx w h (L0.map Prod.fst)) [] [] w':=by
 refine ⟨h,⟨fun q n=>(by cases n),fun b o e=>?_,Hp.le_refl _,fun b k=>.inl k,⟨fun e f=>(by cases f),List.nodup_nil⟩,fun e f=>(by cases f),i,fun d j=>by cases j⟩⟩
 have a:b ∉ L0.map Prod.fst:=fun p=>by
  obtain ⟨l,c,rfl⟩:=List.mem_map.1 p
  rw [(m.1 l c).2] at e
  cases e
 rw [i.block b (Hp.lt g e) a]
 exact g b o e
theorem D7r (b:Nat) (p:Value) (l:List UInt8) (r:VR) (m:bR 1 l.length r):cI Tryz.prog 232 [pt b 0] (bx b [p,vv r l.length] 270::(vo cG 5 r l++[])) [] Unit (fun _=>sv l) (fun _=>[]) (fun _=>[]):=by
 refine ⟨⟨by kernel_rfl⟩,fun w h hq hs o=>?_⟩
 have d:=(o.1 (bx b [p,vv r l.length] 270) oom).1
 simp only at d
 have u:∀ {R:Ending→World→Prop},(∀ e w',(e=.returned (.string ⟨l.toArray⟩)∧KeptBut ((bx b [p,vv r l.length] 270::(vo cG 5 r l++[])).map Prod.fst) w w')→R e w')→(Calls Tryz.prog 232 #[pt b 0] w fun e w'=>e=.returned (.string ⟨l.toArray⟩)∧KeptBut ((bx b [p,vv r l.length] 270::(vo cG 5 r l++[])).map Prod.fst) w w')→Calls Tryz.prog 232 #[pt b 0] w R:=fun h1 h2=>h2.mono h1
 refine u (fun e w' ⟨he,c⟩=>⟨(),he,F3d hs o c⟩) ?_
 obtain ⟨q,k,j⟩:=r
 cases q with
 | none =>
  have v:l.length=0∧k=0:=m
  have z:l=[]:=List.eq_nil_of_length_eq_zero v.1
  obtain ⟨_,c⟩:=v
  subst z c
  exact E1c b p w d
 | some g =>
  have a:l.length * 1+j.length=k * 1∧l.length≤k∧k≤maxLen:=m
  have t:=(o.1 (bx g (l.flatMap cG++j) 5) olg).1
  simp only at t
  have f:(l.flatMap cG).length=l.length:=by rw [G4 (sz:=1) (fun _=>rfl)];omega
  cases l with
  | nil =>
   by_cases c:k=0
   ·subst c
    exact D1u b g p _ w d t
   ·exact D6g b g k p w c d
  | cons x l =>
   refine D6a b g k p _ (x::l) w oom d t a.2.1 a.2.2 (by simp only [List.size_toArray,List.length_append,f];omega) ?_
   intro i y n
   have s:=(List.getElem?_eq_some_iff.1 n).1
   rw [List.getElem?_toArray,List.getElem?_append_left (by rw [f];exact s),D3y _ _ s]
   rw [List.getElem?_eq_getElem s] at n
   simp only [Option.some.injEq] at n
   rw [n]
theorem C6w (b:Nat) (v:Value) (a:Option Addr) (h:a=none∨a=some ⟨b,0,none⟩):cI Tryz.prog 277 [pt b 0] [bx b [.pointer a,v] 270] [] Unit (fun _=>.tuple #[]) (fun _=>[bx b [pt b 0,v] 270]) (fun _=>[]):=by
 rcases h with rfl | rfl
 ·exact D7o b v
 ·exact D8e b v
end Go.Proofs.YtfcdnnheppnbaaaGreatDoor
namespace Go.Fen
open Go Go.RowKit Go.Sort Go.Proofs
def E8z (g:Nat) (cs:List Value):Pers:=⟨fun h=>∃ T a,h g=some (.cells cs.toArray T a),fun {h h'} hl hp=>let ⟨T,a,e⟩:=hp;⟨T,a,hl g _ e⟩⟩
section
variable {P:Program}
theorem E5f {i:List (String×DataW Unit)} {w:World} {b:String} {g T:Nat} {ds:List (DataW Unit)} (j:(b,.agg ds) ∈ i) (hg:P.globalNamed b=some g) (hT:(P.globals[g]?).map (·.type)=some T)
  {e sz k:Nat} {α:Type} {c:α→List Value} {D:{H:Type}→DataW H→α→Prop} {p:Hp→α→Prop} (hc:Cod P e α c D p) (z:∀ x,(c x).length=sz) (a0:P.cellsOf e=sz) (ht:P.underlying T=some (.array k e)) (a2:P.cellsOf T=k * sz)
  (m:DataW Unit→Option α) (u:∀ d a,D d a→m d=some a) {tab:List α} (s:ds.mapM m=some tab) (h:laidMet P i w):(E8z g (tab.flatMap c)).p (C6o w):=by
 obtain ⟨ps,h,_⟩:=h
 have:∀ (l:List (String×DataW Unit)) (ps:List MemPlace),DataW.LaidVars P w l ps→(b,.agg ds) ∈ l→∃ cs f q,w.var? P b=some cs∧DataW.trod (fun _=>()) P w 0 (fun _=>true) false f T cs.toList=some (.agg ds,q):=by
  intro l
  induction l with
  | nil=>intro ps _ j;cases j
  | cons y r ih =>
   intro ps h j
   obtain ⟨n,d⟩:=y
   obtain ⟨g',t,cs,f,p',q,h1,h2,h3,h4,h5,_⟩:=h
   rcases List.mem_cons.1 j with e | j
   ·simp only [Prod.mk.injEq] at e
    obtain ⟨rfl,rfl⟩:=e
    rw [hg] at h1
    obtain rfl:g=g':=Option.some.inj h1
    rw [hT] at h2
    obtain rfl:T=t:=Option.some.inj h2
    exact ⟨cs,f,p',h3,h4⟩
   ·exact ih q h5 j
 obtain ⟨cs,f,q,o,a1⟩:=this i ps h j
 have v:=D6x hc z a0 ht a2 m u s a1
 unfold World.var? at o
 rw [hg] at o
 simp only [Option.bind_some] at o
 split at o
 ·rename_i cs' TT fr hh
  obtain rfl:cs'=cs:=Option.some.inj o
  refine ⟨TT,fr,?_⟩
  rw [← v]
  exact hh
 ·cases o
end
theorem E5i {P:Program} {f:FuncId} {args:List Value} {Φ:List Pers} {v:Value} (a:HasBody P f)
  (h:∀ (w:World) (h:Hp),(∀ q ∈ Φ,q.p h)→h.sub w→Calls P f args.toArray w fun e w'=>e=.returned v∧∃ k g,w'=grow (w.drewN k) g):J5 P f args Φ v:=by
 refine ⟨a,fun w hp hΦ hs ho=>(h w hp hΦ hs).mono fun e w' c=>⟨(),c.1,hp,?_⟩⟩
 obtain ⟨c,k,g,rfl⟩:=c
 refine ⟨fun q m=>(by cases m),fun b o a=>?_,Hp.le_refl _,fun b a=>.inl a,⟨fun e c=>(by cases c),List.nodup_nil⟩,fun e c=>(by cases c),⟨rfl,rfl,rfl,?_,fun b a _=>?_⟩,fun d l=>(by cases l)⟩
 ·have j:=hs b o a
  obtain ⟨i,_⟩:=Array.getElem?_eq_some_iff.1 j
  show (w.heap++g)[b]?=some o
  rw [Array.getElem?_append_left i];exact j
 ·show w.heap.size≤(w.heap++g).size
  rw [Array.size_append];omega
 ·show (w.heap++g)[b]?=w.heap[b]?
  exact Array.getElem?_append_left a
end Go.Fen
namespace Go.Proofs.YtfcdnnheppnbaaaGreatDoor
open Go Go.Fen Go.RowKit Go.Sort
def D7y:Go.Shelf.Ren:=⟨fun | 171=>187 | 243=>241 | 246=>284 | 283=>316 | 284=>317 | 285=>318 | 286=>319 | 129=>327 | 317=>326 | 318=>328 | 319=>329 | 320=>330 | 337=>334 | 338=>335 | n=>n,fun | 3=>3 | 9=>9 | 2=>2 | 4=>4 | 171=>359 | 0=>0 | 53=>330 | 37=>103 | 5=>5 | 173=>361 | 212=>366 | 51=>327 | 20=>20 | 213=>367 | 46=>213 | 232=>372 | 233=>373 | n=>n,fun | 17=>5 | 18=>7 | 19=>8 | n=>n⟩
theorem E9m:Go.Proofs.LaysM.n171 Tryz.prog D7y where
 mixed:=by kernel_rfl
 f129:=Tryz.func327.trans (congrArg some oki)
 f171:=Tryz.func187.trans (congrArg some oki)
 f243:=Tryz.func241.trans (congrArg some oki)
 f246:=Tryz.func284.trans (congrArg some oki)
 f283:=Tryz.func316.trans (congrArg some oki)
 f284:=Tryz.func317.trans (congrArg some oki)
 f285:=Tryz.func318.trans (congrArg some oki)
 f286:=Tryz.func319.trans (congrArg some oki)
 f317:=Tryz.func326.trans (congrArg some oki)
 f318:=Tryz.func328.trans (congrArg some oki)
 f319:=Tryz.func329.trans (congrArg some oki)
 f320:=Tryz.func330.trans (congrArg some oki)
 f337:=Tryz.func334.trans (congrArg some oki)
 f338:=Tryz.func335.trans (congrArg some oki)
 t0:=Tryz.underlying0
 a0:=Tryz.isAgg0
 z0:=Tryz.sizeOf0
 v0:=Tryz.zeroValue0
 t2:=Tryz.underlying2
 a2:=Tryz.isAgg2
 z2:=Tryz.sizeOf2
 v2:=Tryz.zeroValue2
 t3:=Tryz.underlying3
 a3:=Tryz.isAgg3
 z3:=Tryz.sizeOf3
 v3:=Tryz.zeroValue3
 t4:=Tryz.underlying4
 a4:=Tryz.isAgg4
 z4:=Tryz.sizeOf4
 v4:=Tryz.zeroValue4
 t5:=Tryz.underlying5
 a5:=Tryz.isAgg5
 z5:=Tryz.sizeOf5
 v5:=Tryz.zeroValue5
 t9:=Tryz.underlying9
 a9:=Tryz.isAgg9
 z9:=Tryz.sizeOf9
 v9:=Tryz.zeroValue9
 t20:=Tryz.underlying20
 a20:=Tryz.isAgg20
 z20:=Tryz.sizeOf20
 v20:=Tryz.zeroValue20
 t37:=Tryz.underlying103
 a37:=Tryz.isAgg103
 z37:=Tryz.sizeOf103
 v37:=Tryz.zeroValue103
 t46:=Tryz.underlying213
 a46:=Tryz.isAgg213
 z46:=Tryz.sizeOf213
 v46:=Tryz.zeroValue213
 t51:=Tryz.underlying327
 a51:=Tryz.isAgg327
 z51:=Tryz.sizeOf327
 v51:=Tryz.zeroValue327
 t53:=Tryz.underlying330
 a53:=Tryz.isAgg330
 z53:=Tryz.sizeOf330
 v53:=Tryz.zeroValue330
 t171:=Tryz.underlying359
 a171:=Tryz.isAgg359
 z171:=Tryz.sizeOf359
 v171:=Tryz.zeroValue359
 t173:=Tryz.underlying361
 a173:=Tryz.isAgg361
 z173:=Tryz.sizeOf361
 v173:=Tryz.zeroValue361
 t212:=Tryz.underlying366
 a212:=Tryz.isAgg366
 z212:=Tryz.sizeOf366
 v212:=Tryz.zeroValue366
 t213:=Tryz.underlying367
 a213:=Tryz.isAgg367
 z213:=Tryz.sizeOf367
 t232:=Tryz.underlying372
 a232:=Tryz.isAgg372
 z232:=Tryz.sizeOf372
 v232:=Tryz.zeroValue372
 t233:=Tryz.underlying373
 a233:=Tryz.isAgg373
 z233:=Tryz.sizeOf373
 v233:=Tryz.zeroValue373
 g17:=by kernel_rfl
 g18:=by kernel_rfl
 g19:=by kernel_rfl
 i0:=by kernel_rfl
 i2:=by kernel_rfl
 i3:=by kernel_rfl
 i4:=by kernel_rfl
 i5:=by kernel_rfl
 i9:=by kernel_rfl
 i20:=by kernel_rfl
 i37:=by kernel_rfl
 i46:=by kernel_rfl
 i51:=by kernel_rfl
 i53:=by kernel_rfl
 i171:=by kernel_rfl
 i173:=by kernel_rfl
 i212:=by kernel_rfl
 i232:=by kernel_rfl
 i233:=by kernel_rfl
 m17:=by kernel_rfl
 m18:=by kernel_rfl
 m19:=by kernel_rfl
def B6p:List Value:=Lib.pow10Tab.map fun z=>Value.int .u64 z
theorem E4o (n:Int) (b:-9223372036854775808≤n∧n≤9223372036854775807):J5 Tryz.prog 187 [iv n] [E8z 5 B6p] (sv (Lib.itoa n)):=by
 refine E5i ⟨by kernel_rfl⟩ fun w h hΦ hs=>?_
 obtain ⟨T,c,e⟩:=hΦ _ (List.mem_cons_self ..)
 have a : Lib.TabIs Tryz.prog w "internal/strconv.uint64pow10" .u64 Lib.pow10Tab := by
  unfold Lib.TabIs World.var?
  rw [show Tryz.prog.globalNamed "internal/strconv.uint64pow10" = some 5 by kernel_rfl]
  show (match w.heap[5]? with | some (.cells cs _ _)=>some cs | _=>none)=_
  rw [hs 5 _ e];rfl
 exact Any.strconv_Itoa E9m n b.1 b.2 w a
theorem C3s (n:Int) (a:-9223372036854775808≤n) (b:n≤9223372036854775807):(Lib.itoa n).length≤21:=Lib.itoa_length_le n a b
end Go.Proofs.YtfcdnnheppnbaaaGreatDoor
