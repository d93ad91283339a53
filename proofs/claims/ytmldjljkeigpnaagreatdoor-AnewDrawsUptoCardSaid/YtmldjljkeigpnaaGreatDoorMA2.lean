import Derived.Scope
import Derived.Laws.IdiomStrings
import Derived.ArgAppend
import Derived.Deep.AppendSrc
import Derived.Deep.Upon
import Derived.Laws.MakeOwn
import Derived.Carry
import Derived.ChangeSame
import Derived.ChangeArms
import Derived.ChangeShapes
import Derived.Lib.LaidTab
import Derived.Tactics
import Derived.Tactics2
import Derived.Defers
import Derived.Recover
import Derived.Laws.Pointers
import Derived.Test.YtmldjljkeigpnaaGreatDoorProg
import Derived.Lib.Builder
import Derived.Lib.UnsafeStr
import Derived.Laws.Externs
import Derived.WalkKit
import Derived.Shelf.RegionOpenPlain
import Derived.Shelf.Strconv.Itoa3
import Derived.Lib.ItoaLen
import Derived.Test.YtmldjljkeigpnaaGreatDoorMA1
set_option linter.unusedVariables false
set_option linter.unusedSimpArgs false
set_option linter.unnecessarySimpa false
set_option maxRecDepth 100000
namespace Go.Fen
open Go Go.RowKit
section
variable {β σ:Type} {I:List β→σ→Prop} {Jx:Code→σ→Prop} {Lk:σ→Own} {T:Nat} {Y:Cx} {a:Act} {b:Frame} {α:Type} {c:α→List Value} {cs:List Value} {d:A2q} {e:Nat} {f:α→List Value} {i:Nat} {k:List Item} {m:Nat} {o:Oper} {ops:Array Oper} {q:Option Addr} {r:VR} {rest:List β} {sz:Nat} {val:α→Value} {w:World} {x:Operand} {xs:List α} {Φk:σ→List Pers} {Φs:List Pers}
section
variable {P:Program} {n:Nat} {X:Cx} {K:Act→World→Prop} {Q:Exit→Act→World→Prop} {E E':cA} {L L':Own} {Φ Φ':List Pers}
theorem F0f (b:cG X L Φ w) (j:Nat) (hΦ:Φ[j]?=some (sl f q xs)) (c:0<xs.length):∃ a,q=some a :=
 let ⟨_,hp⟩:=b;F0t (hp.facts _ (List.mem_of_getElem? hΦ)) c
theorem B2k (j:Nat) (hΦ:Φ[j]?=some (sl f q xs)) (d:0<xs.length) (h:∀ a,q=some a→JD P n X ops i m K E L Φ):JD P n X ops i m K E L Φ:=fun a g e k=>by
 by_cases hC:∃ w,cG X L Φ w
 ·obtain ⟨w,c⟩:=hC
  obtain ⟨b,hb⟩:=F0f c j hΦ d
  exact h b hb a g e k
 ·exact B6t (fun w c=>hC ⟨w,c⟩) _ _
theorem B9j {c:Array Bool} (j:Nat) (hΦ:Φ[j]?=some (sl f q xs)) (i:0<xs.length) (h:∀ a,q=some a→JH P n X ops e c K d Φs E L Φ):JH P n X ops e c K d Φs E L Φ :=
 ⟨fun o k l m p a w g=>by
  obtain ⟨b,hb⟩:=F0f g.world j hΦ i
  exact (h b hb).go o k l m p a w g⟩
theorem E7 {y:Operand} {a:Addr} {b cap:Nat} {m:Int} (j:SlTy P T e sz) (c:o.op=.indexAddr T x y)
  (g:ev E x=some (.slice q b cap)) (i:q=some a) (f:ev E y=some (.int .i64 m)) (k:Nat) (h:m=k:=by exact Z) (d:k<b:=by omega):J8 P X o E L Φ (.pointer (some (a.add (k * sz)))):=by
 grind[F6b]
theorem F8 {a:Addr} (b:q=some a) (e:∀ x,(c x).length=sz) (j:Nat) (h:Φ[j]?=some (sl c q xs)) {k:Nat} {v:α} (d:xs[k]?=some v):V5 Φ (at_ (a.add (k * sz)) (c v)):=by grind[G5l]
theorem B6s {ps:Array (Nat×Operand)} (d:SlTy P T e sz) (c:o.op=.buildSlice T 0 ps) (f:ps=#[]) :
  Tri P n X o E L Φ Nat (fun b=>.slice (some ⟨b,0,none⟩) 0 0) (fun b=>bx b [] e::L) (fun _=>Φ):=by
 intro a w K Q h g
 subst f
 refine B0w (by rw [c];rfl) ?_
 unfold Oper.wp
 rw [show (execOp a.eval o).run P w=.ok (.value (.slice (some ⟨w.heap.size,0,none⟩) 0 0)) (w.alloc (.cells #[] e (0,0))) by
  simp [execOp,c,Instr.buildSlice,run_underlying d.ty,d.run,newRow,Instr.fill,show (Array.range 0)=#[] by rfl]]
 exact g w.heap.size _ (h.world.alloc _)
theorem cG.sealed {pre post:Own} (a:bT sz xs.length r) (h:cG X (pre++(vo c T r xs++post)) Φ w):cG X (pre++post) (sl c (va r.q) xs::Φ) w:=by
 unfold vo at h
 cases d:r.q with
 | none =>
  rw [d] at h
  unfold bT at a
  rw [d] at a
  simp only [List.nil_append] at h
  refine h.fact _ fun p _=>?_
  have:xs=[]:=List.length_eq_zero_iff.1 a.1
  rw [this];rfl
 | some b =>
  rw [d] at h
  simp only [List.cons_append,List.nil_append] at h
  have e:(pre++bx b (xs.flatMap c++r.j) T::post).Perm (bx b (xs.flatMap c++r.j) T::(pre++post)):=List.perm_middle
  have g:=(h.perm e).freeze (i:=0) Z
  refine cG.foll (Φ:=blk b (.cells (xs.flatMap c++r.j).toArray T (0,0))::Φ) g fun p e q d=>?_
  rcases List.mem_cons.1 d with rfl | d
  ·have hb:p b=some (.cells (xs.flatMap c++r.j).toArray T (0,0)):=e (blk b _) oom
   refine .inr ⟨rfl,_,_,_,hb,fun j v f=>?_⟩
   grind
  grind
theorem P2 (pre post:Own) (d:bT sz xs.length r) (hL:L=pre++(vo c T r xs++post)) (h:JI P n X ops i m K Q E (pre++post) (sl c (va r.q) xs::Φ)):JI P n X ops i m K Q E L Φ :=
 fun a w b=>h a w ⟨b.size,b.defers,b.has,by have:=b.world;rw [hL] at this;exact this.sealed d⟩
theorem D0z {e:Code} (pre post:Own) (d:bT sz xs.length r) (hL:L=pre++(vo c T r xs++post)) (h:J P n X e Q E (pre++post) (sl c (va r.q) xs::Φ)):J P n X e Q E L Φ :=
 fun a w b=>h a w ⟨b.size,b.defers,b.has,by have:=b.world;rw [hL] at this;exact this.sealed d⟩
theorem D3z (pre post:Own) (d:bT sz xs.length r) (hL:L=pre++(vo c T r xs++post)) (h:JQ n X K E (pre++post) (sl c (va r.q) xs::Φ)):JQ n X K E L Φ :=
 fun a w b=>h a w ⟨b.size,b.defers,b.has,by have:=b.world;rw [hL] at this;exact this.sealed d⟩
theorem A7.dropT (k:Nat) (h:Φ.drop k=Φ'):A7 Φ Φ':=fun p b q a=>b q (by grind)
theorem F4f {b:Array Bool} (i:Nat) {L':α→Own} {Φ':α→List Pers} (Lh:Own) (c:Array Bool) (j:ops[i]?=some o) (q:B3p ops o E=some true) (g:A1m n o.dst=true)
  (k:b.setIfInBounds i true=c) (r:b.setIfInBounds i true=c) (m:d.at c=Lh) (p:Tri P n X o E L Φ α val L' Φ') (f:∀ x,Lh.Sublist (L' x)) (hΦ':∀ x,A7 (Φ' x) Φs) (h:∀ x,JH P n X ops e c K d Φs (cA.put E o.dst (val x)) (L' x) (Φ' x)) :
  ∀ a w,St n X E L Φ a w→A7z ops=true→Region.noSelect ops=true→b.size=ops.size→wpOpIn (FW X.rho) 0 P ops (oN K) i (fun s w'=>((b.setIfInBounds i true).size=ops.size∧cG X (d.at (b.setIfInBounds i true)) Φs w')∧AH X.rho P ops (oN K) (fun l w=>l.size=ops.size∧cG X (d.at l) Φs w) e (b.setIfInBounds i true) s w') a w:=by
 subst k m
 exact F5y i j q g p f hΦ' h
theorem E2b (t:Nat) {g b:Bool} (d:E.lookup t=some (.bool g)) (e:g=b) (h:JI P n X ops i m K Q ((t,.bool b)::E) L Φ):JI P n X ops i m K Q E L Φ:=fun a w c=>h a w ⟨c.size,c.defers,c.has.lit d e,c.world⟩
theorem cG.fix {b:Nat} (e:L[i]?=some (bx b cs T)) (h:cG X L Φ w):cG X (L.eraseIdx i) (at_ ⟨b,0,none⟩ cs::Φ) w :=
 (h.freeze e).foll fun p c q a=>by
  rcases List.mem_cons.1 a with rfl | a
  ·have hb:p b=some (.cells cs.toArray T (0,0)):=c (blk b (.cells cs.toArray T (0,0))) oom
   exact .inr ⟨rfl,_,_,_,hb,fun j v d=>by grind⟩
  grind
theorem A6p (k:Nat) {b:Nat} (d:L[k]?=some (bx b cs T)) (h:JI P n X ops i m K Q E (L.eraseIdx k) (at_ ⟨b,0,none⟩ cs::Φ)):JI P n X ops i m K Q E L Φ :=
 fun a w c=>h a w ⟨c.size,c.defers,c.has,c.world.fix d⟩
theorem G4b {b:Code} (j:Nat) (hΦ:Φ[j]?=some (sl c q xs)) (f:q=none) (h:xs=[]→J P n X b Q E L Φ):J P n X b Q E L Φ:=fun a w d=>by
 obtain ⟨p,e⟩:=d.world
 have:=e.facts _ (List.mem_of_getElem? hΦ)
 subst f
 exact h this a w d
theorem I4 {c:Call} {e:Operand} {k:FuncId} {first cap:Array Value} {vs args:List Value} {L0 L2:Own} {Φ0:List Pers} {L1:α→Own} {Φ1:α→List Pers}
  (b:cM P k args L0 Φ0 α val L1 Φ1) (g:o.op=.call c) (j:c.callee=.value e) (f:ev E e=some (.func (.func k) first cap)) (a:c.args.toList.mapM (ev E)=some vs) (i:(first++vs.toArray++cap).toList=args)
  (hΦ:A7 Φ Φ0) (hL:L.Perm (L0++L2)) (L':α→Own) (d:∀ x,L1 x++L2=L' x):Tri P n X o E L Φ α val L' (fun x=>Φ1 x++Φ):=by
 obtain rfl:(fun x=>L1 x++L2)=L':=funext d
 grind[E6p]
theorem B1q {cs:List Frame} {c:Code}:step P (lone (b.atR a (.code (.scope c)::k)) cs w)=.next (lone (b.atR a (.code c::.inScope c::k)) cs w) :=by rfl
theorem D8l {cs:List Frame} {c:Code}:step P (lone (b.atR a (.inScope c::k)) cs w)=.next (lone (b.atR a k) cs w) :=by rfl
theorem E8g {F:Fence} {c:Code} (h:c.wpIn F m P (Exit.noGoto Q) a w):(Code.scope c).wpIn F m P Q a w:=by
 intro b k cs o hb hr
 have f:(lone (b.atR a (.code (.scope c)::k)) cs w).fenced P F:=fenced_calm hb hr Z
 obtain ⟨e,j,i,g,d⟩:=h b (.inScope c::k) cs o hb hr
 cases e with
 | normal=>exact ⟨.normal,j,i,g,.head f B1q (StepsIn.trans d (.one (fenced_calm hb hr Z) D8l))⟩
 | exit id =>
  have q:exitTo id (.inScope c::k)=exitTo id k:=by rfl
  exact ⟨.exit id,j,i,g,fun r p=>.head f B1q (d.1 r (by grind)),
   fun n p=>let ⟨k₁,h1,h2⟩:=d.2 n (by grind);⟨k₁,h1,.head f B1q h2⟩⟩
 | goto l=>exact g.elim
 | ret=>exact ⟨_,j,i,g,.of_steps (.one f B1q) d⟩
 | panic ch=>exact ⟨_,j,i,g,.of_steps (.one f B1q) d⟩
 | outgrown=>exact ⟨_,j,i,g,.of_steps (.one f B1q) d⟩
theorem C5d {c:Code} (h:J P n X c (Exit.noGoto Q) E L Φ):J P n X (.scope c) Q E L Φ:=fun a w b=>E8g (h a w b)
theorem C5g {l:Nat} (h:JQ n X (Q .normal) E L Φ):J P n X (.label l) Q E L Φ:=fun a w b=>wpIn_label (h a w b)
theorem C5m {T:TypeId} {a c:Int} (b:o.op=.unOp .neg T x) (d:ev E x=some (.int .i64 a)) (e:-a=c) (h:-9223372036854775808≤c∧c≤9223372036854775807):J8 P X o E L Φ (.int .i64 c) :=
 .pure (by simp only [B7e,b,d];rw [show (0 - a:Int)=c by omega,A3b (k:=.i64) h.1 h.2])
theorem B1j (hΦ:A7 Φ Φ') (h:JI P n X ops i m K Q E L Φ'):JI P n X ops i m K Q E L Φ:=fun a w b=>h a w ⟨b.size,b.defers,b.has,b.world.foll hΦ⟩
theorem A7.yield (a:List Pers) {A B:List Pers}:A7 (A++(a++B)) (a++A):=fun p b q c=>b q (by
 grind)
theorem E7g {l:List α}:∀ {cs:List (List α)},l ∈ cs→l.Sublist cs.flatten
 | [],h=>by cases h
 | c::cs,h=>by
  rw [List.flatten_cons]
  rcases List.mem_cons.1 h with rfl | h
  ·simp
  ·exact (E7g h).trans (List.sublist_append_right _ _)
theorem mcT (cs:List Fen.Own) (i:Nat) (a:L=cs.flatten) (b:cs[i]?=some L'):L'.Sublist L:=by grind[E7g]
theorem B2c (s:σ) (b:I rest s) (hL:(Lk s).Sublist L) (hΦ:A7 Φ (Φk s)):JQ n Y (RP Y I Jx Lk Φk rest .normal) E L Φ :=
 fun a w c=>⟨s,b,(c.world.sub hL).foll hΦ⟩
theorem G0z (s:σ) (b:Jx .ret s) (hL:(Lk s).Sublist L) (hΦ:A7 Φ (Φk s)):JQ n Y (RP Y I Jx Lk Φk rest .ret) E L Φ :=
 fun a w c=>⟨s,b,(c.world.sub hL).foll hΦ⟩
end
end
section
section
variable {P:Program} {n:Nat} {X:Cx} {K:Act→World→Prop} {Q:Exit→Act→World→Prop} {E E':cA} {L L':Own} {Φ Φ':List Pers}
def P3 (ds:List (Nat×Obj)):Prop:=(ds.map Prod.fst).Nodup∧∀ d ∈ ds,d.2=.deferred (some [])
theorem P3.nil:P3 []:=⟨List.nodup_nil,fun d a=>by cases a⟩
theorem P3.cons {d:Nat} {ds:List (Nat×Obj)} (h:P3 ds) (b:d ∉ ds.map Prod.fst):P3 ((d,.deferred (some []))::ds) :=
 ⟨by rw [List.map_cons,List.nodup_cons];exact ⟨b,h.1⟩,fun e a=>by
  rcases List.mem_cons.1 a with rfl | a
  ·rfl
  ·exact h.2 e a⟩
theorem F8s {c:Code} {β:Type} (I:β→Prop) (Ei:β→cA) (Li:β→Own) (Φi:β→List Pers) (μ:β→Nat) (b:β) (r:P3 X.D) (o:I b) (hE:R0 E (Ei b)) (hL:(Li b).Sublist L) (hΦ:A7 Φ (Φi b))
  (h:∀ x ds,P3 ds→I x→J P n (X.wd ds) c (Exit.then (fun a w=>∃ y ds,P3 ds∧I y∧μ y<μ x∧St n (X.wd ds) (Ei y) (Li y) (Φi y) a w) Q) (Ei x) (Li x) (Φi x)):J P n X (.loop c) Q E L Φ:=by
 intro a w f
 refine wpIn_loop_ghost (fun k a w=>∃ x ds,P3 ds∧I x∧μ x=k∧St n (X.wd ds) (Ei x) (Li x) (Φi x) a w) (μ b) ⟨b,X.D,r,o,rfl,f.size,f.defers,f.has.weaken (Q2 hE),(f.world.sub hL).foll hΦ⟩ ?_
 rintro k a w ⟨x,ds,j,s,rfl,m⟩
 refine Code.wpIn_mono (fun e a w q=>?_) (h x ds j s a w m)
 grind
end
end
section
variable {i m:Nat} {ops:Array Oper} {q:Pers}
def F0 (s:Slc):List Value:=[.slice s.q s.n s.k]
def D8 {α:Type} (c:α→List Value) (rs:List Slc) (xss:List (List α)):Pers:=⟨fun h=>∀ (i:Nat) r xs,rs[i]?=some r→xss[i]?=some xs→(sl c r.q xs).p h,fun {h h'} hl hp i r xs h1 h2=>(sl c r.q xs).mono hl (hp i r xs h1 h2)⟩
def B4 {α:Type} (rs:List Slc) (xss:List (List α)):Prop:=rs.length=xss.length∧∀ (i:Nat) r xs,rs[i]?=some r→xss[i]?=some xs→r.n=xs.length∧r.n≤r.k∧xs.length≤9223372036854775807
section
variable {P:Program} {n:Nat} {X:Cx} {K:Act→World→Prop} {Q:Exit→Act→World→Prop} {E E':cA} {L L':Own} {Φ Φ':List Pers}
theorem F9v {α:Type} {c:α→List Value} {rs:List Slc} {xss:List (List α)} (j:Nat) (h:Φ[j]?=some (D8 c rs xss)) {r:Slc} {xs:List α} (hr:rs[i]?=some r) (b:xss[i]?=some xs):V5 Φ (sl c r.q xs) :=
 fun p a=>a _ (List.mem_of_getElem? h) i r xs hr b
theorem Y9 (c:L.Perm L') (h:JQ n X K E L' Φ):JQ n X K E L Φ:=fun a w b=>h a w ⟨b.size,b.defers,b.has,b.world.perm c⟩
theorem A6v {c:Code} (a:V5 Φ q) (h:J P n X c Q E L (q::Φ)):J P n X c Q E L Φ:=G1c q a h
theorem D4 (a:V5 Φ q) (h:JI P n X ops i m K Q E L (q::Φ)):JI P n X ops i m K Q E L Φ:=F9f q a h
theorem B7m (c:V5 Φ q) (h:JD P n X ops i m K E L (q::Φ)):JD P n X ops i m K E L Φ:=by
 intro a g f j
 have e:cG X L (q::Φ)=cG X L Φ:=by
  funext w
  refine propext ⟨fun b=>b.foll fun p d q c=>d q (List.mem_cons_of_mem _ c),fun b=>b.fact q c⟩
 have:=h a g f j
 simp_all
end
end
section
variable {ρ:Type} {R a b:ρ} {c:Bool} {k:Nat} {x:Code} {α:Type} {xs:List α} {y:Code} {β1 β2 β3:Type}
theorem bt (h:(bif c then a else b)=R) (d:c=true):a=R:=by grind
theorem bf (h:(bif c then a else b)=R) (d:c=false):b=R:=by grind
theorem gd (d:α) (h:k<xs.length):xs[k]?=some (xs.getD k d):=by grind
theorem A1a (d:α) (h:k<xs.length):xs.drop k=xs.getD k d::xs.drop (k+1):=by simp_all
theorem A1b (h:¬ ((k:Int)<(xs.length:Int))):xs.drop k=[]:=by simp_all
section
variable {P:Program} {n:Nat} {X:Cx} {K:Act→World→Prop} {Q:Exit→Act→World→Prop} {E E':cA} {L L':Own} {Φ Φ':List Pers}
theorem E8w {β:Type} (I:β→Prop) (Ei:β→cA) (Li:β→Own) (Φi:β→List Pers)
  (g:J P n X x (Exit.then (fun a w=>∃ y,I y∧St n X (Ei y) (Li y) (Φi y) a w) Q) E L Φ) (b:∀ z,I z→J P n X y Q (Ei z) (Li z) (Φi z)):J P n X (.seq x y) Q E L Φ :=
 fun a w f=>wpIn_seq (Code.wpIn_mono (fun e a w q=>by
  cases e with
  | normal=>obtain ⟨z,d,c⟩:=q;exact b z d a w c
  | _=>exact q) (g a w f))
theorem JL1 {c:Code} (I:β1→Prop) (Ei:β1→cA) (Li:β1→Own) (Φi:β1→List Pers) (μ:β1→Nat) (b:β1) (f:I b) (hE:R0 E (Ei b)) (hL:(Li b).Sublist L) (hΦ:A7 Φ (Φi b))
  (h:∀ b,I b→J P n X c (Exit.then (fun a w=>∃ d,I d∧μ d<μ b∧St n X (Ei d) (Li d) (Φi d) a w) Q) (Ei b) (Li b) (Φi b)):J P n X (.loop c) Q E L Φ :=
 D5b (β:=β1) (fun x=>I x) (fun x=>Ei x) (fun x=>Li x) (fun x=>Φi x) (fun x=>μ x) b f hE hL hΦ fun x k a w j=>Code.wpIn_mono (fun e a w q=>by
  omega) (h x k a w j)
theorem JS1 (I:β1→Prop) (Ei:β1→cA) (Li:β1→Own) (Φi:β1→List Pers)
  (j:J P n X x (Exit.then (fun a w=>∃ b,I b∧St n X (Ei b) (Li b) (Φi b) a w) Q) E L Φ) (f:∀ c,I c→J P n X y Q (Ei c) (Li c) (Φi c)):J P n X (.seq x y) Q E L Φ :=
 E8w (β:=β1) (fun x=>I x) (fun x=>Ei x) (fun x=>Li x) (fun x=>Φi x) (fun a w i=>Code.wpIn_mono (fun e a w q=>by
  omega) (j a w i)) fun x d=>f x d
theorem G6f {c:Code} (I:β1→β2→β3→Prop) (Ei:β1→β2→β3→cA) (Li:β1→β2→β3→Own) (Φi:β1→β2→β3→List Pers) (μ:β1→β2→β3→Nat) (f:β1) (d:β2) (b:β3) (t:P3 X.D) (m:I f d b) (hE:R0 E (Ei f d b)) (hL:(Li f d b).Sublist L) (hΦ:A7 Φ (Φi f d b))
  (h:∀ f d b ds,P3 ds→I f d b→J P n (X.wd ds) c (Exit.then (fun a w=>∃ g j i ds,P3 ds∧I g j i∧μ g j i<μ f d b∧St n (X.wd ds) (Ei g j i) (Li g j i) (Φi g j i) a w) Q) (Ei f d b) (Li f d b) (Φi f d b)):J P n X (.loop c) Q E L Φ :=
 F8s (β:=β1×β2×β3) (fun x=>I x.1 x.2.1 x.2.2) (fun x=>Ei x.1 x.2.1 x.2.2) (fun x=>Li x.1 x.2.1 x.2.2) (fun x=>Φi x.1 x.2.1 x.2.2) (fun x=>μ x.1 x.2.1 x.2.2) (f,d,b) t m hE hL hΦ fun x ds k u a w s=>Code.wpIn_mono (fun e a w q=>by
  simp_all) (h x.1 x.2.1 x.2.2 ds k u a w s)
theorem F6c {X':Cx} {I:β1→β2→β3→Prop} {Ei:β1→β2→β3→cA} {Li:β1→β2→β3→Own} {Φi:β1→β2→β3→List Pers} {μ:β1→β2→β3→Nat} {z1:β1} {z2:β2} {z3:β3} (hX:X'=X.wd X'.D) (k:P3 X'.D) (b:β1) (d:β2) (c:β3) (j:I b d c) (hμ:μ b d c<μ z1 z2 z3) (hE:R0 E (Ei b d c)) (hL:(Li b d c).Sublist L) (hΦ:A7 Φ (Φi b d c)) :
  JQ n X' (fun a w=>∃ i f g ds,P3 ds∧I i f g∧μ i f g<μ z1 z2 z3∧St n (X.wd ds) (Ei i f g) (Li i f g) (Φi i f g) a w) E L Φ :=
 fun _ _ e=>by
  rw [hX] at e
  exact ⟨b,d,c,X'.D,k,j,hμ,e.size,e.defers,e.has.weaken (Q2 hE),(e.world.sub hL).foll hΦ⟩
end
end
section
variable {T U:TypeId} {a:List UInt8} {b:Int} {α:Type} {c:α→List Value} {cc d e:Nat} {f:α→List Value} {k:IntKind} {len:Nat} {m:Int} {n':Nat} {o:Oper} {post pre:Own} {q:Option Addr} {r:VR} {rs:List Slc} {s:List UInt8} {sz v:Nat} {w:World} {x:Operand} {xs:List α} {xss:List (List α)} {y:Operand} {ys:List α}
def H0 (n:Int):List Value:=[.int .i64 n]
def cJ (b:UInt8):List Value:=[.int .u8 (b.toNat:Int)]
def G3i (s:List UInt8):List Value:=[.string (bs s)]
def B1w (b:Bool):List Value:=[.bool b]
def by8 (n:Int):UInt8:=UInt8.ofNat n.toNat
theorem C8k (a:k.min≤m) (b:m≤k.max):k.wrap m=m:=A3b a b
theorem G0e (b:UInt8):(b.toNat:Int)≤255:=by have:=b.toNat_lt;omega
theorem A9c (b:UInt8):IntKind.i64.wrap (b.toNat:Int)=b.toNat:=A3b (by show (-9223372036854775808:Int)≤_;omega) (by have:=G0e b;show _≤(9223372036854775807:Int);omega)
theorem E0d {n:Int} (h:0≤n∧n≤255):((by8 n).toNat:Int)=n:=by grind[by8,UInt8.toNat_ofNat']
theorem C2v {x:α} {e R:List α} (h:x::e=R):∃ R',e=R'∧R=x::R':=⟨e,rfl,h.symm⟩
section
variable {P:Program} {n:Nat} {X:Cx} {K:Act→World→Prop} {Q:Exit→Act→World→Prop} {E E':cA} {L L':Own} {Φ Φ':List Pers}
theorem B3l:V5 Φ (sl c none []):=fun _ _=>Z
theorem F0o (a b:List UInt8):(a == b)=decide (a=b):=by grind
theorem D4e (a:List UInt8):(bs a).size=a.length:=rfl
theorem D4r {b:List UInt8} (d:o.op=.binOp .eql T x y U) (f:ev E x=some (.string (bs a))) (e:ev E y=some (.string (bs b))):J8 P X o E L Φ (.bool (decide (a=b))) :=
 .of_run fun g w c _=>by
  simp [execOp,d,D5 c f,D5 c e,eqGuard,binOp,Op.stringOp,F0o]
theorem B2u {b:List UInt8} (d:o.op=.binOp .neq T x y U) (f:ev E x=some (.string (bs a))) (e:ev E y=some (.string (bs b))):J8 P X o E L Φ (.bool (!decide (a=b))) :=
 .of_run fun g w c _=>by
  simp [execOp,d,D5 c f,D5 c e,eqGuard,binOp,Op.stringOp,F0o]
theorem F2x (a b:List UInt8):bs a++bs b=bs (a++b):=by rfl
theorem E0p {b:List UInt8} (e:o.op=.binOp .add T x y U) (g:ev E x=some (.string (bs a))) (f:ev E y=some (.string (bs b))) (h:a.length+b.length≤9223372036854775807):J8 P X o E L Φ (.string (bs (a++b))) :=
 .of_run fun i w c _=>by
  have d:¬ ((((bs a).size+(bs b).size:Nat):Int) > IntKind.i64.max):=by
   rw [D4e,D4e];show ¬ ((_:Int) > 9223372036854775807);omega
  simp only [execOp,e,D5 c g,D5 c f,eqGuard,binOp,Op.stringOp,if_neg d,F2x]
  rfl
theorem G2y (s:List UInt8) (k:Nat) (h:k<s.length):(bs s)[k]?=some (s.getD k 0):=by
 have:k<(bs s).size:=h
 simp_all[ByteArray.getElem_eq_getElem_data]
theorem E7q (f:P.underlying T=some .string) (c:o.op=.index T x y) (g:ev E x=some (.string (bs s))) (e:ev E y=some (.int .i64 m)) (k:Nat) (b:m=k) (d:k<s.length) :
  J8 P X o E L Φ (.int .u8 ((s.getD k 0).toNat:Int)):=.of_run fun h w a _=>by
 subst b
 have i:(0:Int)≤k:=by omega
 simp [execOp,c,D5 a g,D5 a e,Instr.index,asIntOf,run_underlying f,G2y s k d]
theorem D5h (s:List UInt8) (l h:Nat) (a:h≤s.length):(bs s).extract l h=bs ((s.drop l).take (h - l)):=by
 apply ByteArray.ext
 simp
theorem E5h {i g:Operand} {a:Int} (r:P.underlying T=some .string) (j:o.op=.slice T x (some i) (some g) none) (p:ev E x=some (.string (bs s))) (c:ev E i=some (.int .i64 a)) (e:ev E g=some (.int .i64 b)) (l:Nat) (k:a=l) (h:Nat) (m:b=h) (t:l≤h) (f:h≤s.length) :
  J8 P X o E L Φ (.string (bs ((s.drop l).take (h - l)))):=.of_run fun u w d _=>by
 subst k m
 have q:(0:Int)≤h∧(h:Int)≤(bs s).size:=by grind[D4e]
 have n:(0:Int)≤l∧(l:Int)≤h:=by omega
 simp [execOp,j,D5 d p,D5 d c,D5 d e,Instr.sliceAt,Instr.slice,Instr.sliceBounds,Instr.sliceBound,asIntOf,run_underlying r,q,n,D5h s l h f,show h≤(bs s).size from f,t]
theorem D2l {e:Operand} (j:P.underlying T=some .string) (f:o.op=.slice T x none (some e) none) (k:ev E x=some (.string (bs s))) (a:ev E e=some (.int .i64 b)) (h:Nat) (i:b=h) (d:h≤s.length) :
  J8 P X o E L Φ (.string (bs (s.take h))):=.of_run fun l w c _=>by
 subst i
 have g:(0:Int)≤h∧(h:Int)≤(bs s).size:=by grind[D4e]
 have:=D5h s 0 h d
 simp only [List.drop_zero,Nat.sub_zero] at this
 simp [execOp,f,D5 c k,D5 c a,Instr.sliceAt,Instr.slice,Instr.sliceBounds,Instr.sliceBound,asIntOf,run_underlying j,g,this,show h≤(bs s).size from d]
theorem getD_some {k:Nat} {v d:α} (h:xs[k]?=some v):xs.getD k d=v:=by grind
theorem M2 (ok:B4 rs xss) {k:Nat} (h:k<rs.length) {d:Slc}:(Value.slice (rs.getD k d).q (rs.getD k d).n (rs.getD k d).k)=.slice (rs.getD k d).q (xss.getD k []).length (rs.getD k d).k:=by
 have b:=gd d h
 have a:xss[k]?=some (xss.getD k []):=gd [] (by have:=ok.1;omega)
 rw [(ok.2 k _ _ b a).1]
theorem Q9 (ok:B4 rs xss) {k:Nat} (h:k<rs.length) {d:Slc}:(xss.getD k []).length≤(rs.getD k d).k∧(xss.getD k []).length≤9223372036854775807:=by
 have b:=gd d h
 have a:xss[k]?=some (xss.getD k []):=gd [] (by have:=ok.1;omega)
 have:=ok.2 k _ _ b a
 omega
theorem Q6 (ok:B4 rs xss) (j:Nat) (a:Φ[j]?=some (D8 c rs xss)) {k:Nat} (h:k<rs.length) {d:Slc}:V5 Φ (sl c (rs.getD k d).q (xss.getD k [])) :=
 F9v j a (gd d h) (gd [] (by have:=ok.1;omega))
theorem B0b {T:Nat} {agg:Bool} {a:Addr} (j:P.underlying T=some (.array len e)) (i:Ty P e sz agg) (c:o.op=.indexAddr T x y)
  (g:ev E x=some (.pointer (some a))) (f:ev E y=some (.int .i64 m)) (k:Nat) (h:m=k) (d:k<len):J8 P X o E L Φ (.pointer (some (a.add (k * sz)))):=.of_run fun n w b _=>by
 subst h
 have l:(0:Int)≤k∧(k:Int)<len:=by omega
 simp [execOp,c,D5 b g,D5 b f,Instr.indexAt,asIntOf,run_underlying j,Instr.sureAddr,i.size,l,Nat.not_le.2 d]
def B5w (q:Option Addr) (l sz m:Nat):Option Addr:=if m=l then q else q.map (·.add (l * sz))
def SB (E:cA) (o:Option Operand) (d v:Nat):Prop:=match o with | none=>v=d | some x=>∃ m,ev E x=some (.int .i64 m)∧m=(v:Int)
theorem A2b:SB E none d d:=rfl
theorem A1l (h:ev E x=some (.int .i64 m)) (a:m=v):SB E (some x) d v:=⟨m,h,a⟩
theorem B0d {a:Act} (e:Has a E) {y:Nat} (h:SB E (some x) d v) (i:v≤y) (b:BoundsCode) (w:World):(Instr.sliceBound (a.eval x) y b).run P w=.ok v w:=by
 obtain ⟨m,g,f⟩:=h
 subst f
 have c:(0:Int)≤v∧(v:Int)≤y:=by omega
 simp [Instr.sliceBound,D5 e g,asIntOf,c]
theorem B2m {T:Nat} {f d i:Option Operand} {cap:Nat} (hT:SlTy P T e sz) (ho:o.op=.slice T x f d i) (hx:ev E x=some (.slice q len cap)) (l h m:Nat) (c:SB E f 0 l) (g:SB E d len h) (r:SB E i cap m)
  (n:l≤h) (j:h≤m) (v:m≤cap) (hn:n'=h - l) (u:(i.isSome&&!d.isSome)=false):J8 P X o E L Φ (.slice (B5w q l sz m) n' (m - l)):=.of_run fun t w b _=>by
 subst hn
 have k:(Instr.sliceBounds true len cap (f.map t.eval) (d.map t.eval) (i.map t.eval)).run P w=.ok (l,h,m) w:=by
  unfold Instr.sliceBounds
  cases i with
  | none =>
   have p:m=cap:=r
   subst p
   cases d with
   | none =>
    have s:h=len:=g
    subst s
    cases f with
    | none=>have a:l=0:=c;simp_all
    | some z=>simp [B0d b c n]
   | some y =>
    cases f with
    | none=>have a:l=0:=c;subst a;simp [B0d b g j]
    | some z=>simp [B0d b c n,B0d b g j]
  | some z =>
   cases d with
   | none=>simp at u
   | some y =>
    cases f with
    | none=>have a:l=0:=c;subst a;simp [B0d b g j,B0d b r v]
    | some z=>simp [B0d b c n,B0d b g j,B0d b r v]
 simp only [execOp,ho,Sem.run_bind,D5 b hx,Instr.sliceAt,Instr.slice,run_underlying hT.ty,Result.andThen_ok,k,hT.run,B5w]
 rfl
theorem G5s (q:Option Addr) (sz m:Nat):B5w q 0 sz m=q:=by simp[B5w,Addr.add]
theorem B5n {T:Nat} {b d:Option Operand} {a cap:Nat} (n:SlTy P T e sz) (f:o.op=.slice T x none b d) (k:ev E x=some (.slice q a cap)) (h m:Nat) (g:SB E b a h) (l:SB E d cap m)
  (i:h≤m) (j:m≤cap) (p:n'=h) (c:(d.isSome&&!b.isSome)=false):J8 P X o E L Φ (.slice q n' m):=by
 have:=B2m (L:=L) (Φ:=Φ) (X:=X) n f k 0 h m A2b g l (Nat.zero_le _) i j (n':=n') opx c
 grind[G5s]
theorem E8b (h:V5 Φ (sl c q xs)) (l k m:Nat) (s:∀ x,(c x).length=sz) (i:ys=(xs.drop l).take (k - l)) (r:l≤xs.length) (u:k≤m):V5 Φ (sl c (B5w q l sz m) ys):=fun p f=>by
 subst i
 have:=h p f
 unfold B5w
 split
 ·rename_i e
  subst e
  rw [show k - m=0 by omega,List.take_zero]
  cases q with
  | none=>rfl
  | some a=>exact .inl Z
 ·cases q with
  | none=>grind[sl]
  | some a =>
   obtain ⟨b,of,t⟩:=a
   obtain o | ⟨h0,cc,T,fr,h3,h4⟩:=this
   ·exact .inl (List.flatMap_eq_nil_iff.2 fun x n=>List.flatMap_eq_nil_iff.1 o x (List.mem_of_mem_drop (List.mem_of_mem_take n)))
   simp only at h0 h3 h4
   subst h0
   simp only [Option.map_some,A3j]
   refine .inr ⟨rfl,cc,T,fr,h3,fun j v d=>?_⟩
   have e:xs.flatMap c=(xs.take l).flatMap c++((((xs.drop l).take (k - l)).flatMap c)++((xs.drop l).drop (k - l)).flatMap c):=by
    grind[List.take_append_drop]
   have g:((xs.take l).flatMap c).length=l * sz:=by grind[G8,List.length_take]
   simp only
   rw [Nat.add_assoc]
   refine h4 _ _ ?_
   grind
theorem Q7 {c:Call} {T:Nat} {a:Addr} {m:Nat} (v:ApTy P T e sz d) (l:∀ x,(f x).length=sz) (i:∀ x,(f x).all (·.oneCell')=true)
  (p:o.op=.call c) (w:c.callee=.builtin .append) (g:c.args=#[x,y]) (j:c.argTypes=#[T,T]) (s:ev E x=some (vv r xs.length)) (q:ev E y=some (.slice (some a) m cc)) (z:True=True) (t:m=ys.length) (hL:L=pre++(vo f e r xs++post))
  (u:V5 Φ (sl f (some a) ys)) (h:bT sz xs.length r) (hb:(xs.length+ys.length) * d≤140737488355328) (k:xs.length+ys.length≤9223372036854775807) :
  Tri P n X o E L Φ {b:VR // bT sz (xs++ys).length b} (fun b=>vv b.1 (xs++ys).length) (fun b=>pre++(vo f e b.1 (xs++ys)++post)) (fun _=>Φ):=by
 rw [List.length_append]
 grind[E7z]
theorem E7e {b:Nat} {ty e:TypeId} {i:TypeInfo} {size:Nat} (f:P.underlying T=some (.slice e)) (h:P.info? e=some i)
  {v:Value} {n:Nat} {xs:List Value} (a:w.ownsRow b e size v n xs) (c:Nat):(Builtin.append_ #[T,T] ty #[v,.slice none 0 c]).run P w=.ok v w:=by
 rcases a.2 with ⟨rfl,rfl⟩ | ⟨g,cap,cur,rfl,_,_,d,_⟩
 ·simp [Builtin.append_,run_underlying f,sizeOf,typeInfo,h,Builtin.lenOf,Builtin.firstCells]
 ·simp [Builtin.append_,run_underlying f,sizeOf,typeInfo,h,Builtin.lenOf,Builtin.firstCells,d,storeCells]
theorem F1k {T:Nat} (i:ApTy P T e sz d) (c:∀ x,(f x).length=sz) (g:cG X (pre++(vo f e r xs++post)) Φ w) (a:bT sz xs.length r) :
  w.ownsRow 0 e sz (vv r xs.length) xs.length (xs.flatMap f):=by
 obtain ⟨p,h⟩:=g
 refine ⟨G8 c xs,?_⟩
 unfold bT at a
 split at a
 ·simp_all[va]
 ·rename_i b hq0
  refine .inr ⟨b,r.k,(xs.flatMap f++r.j).toArray,?_,Nat.zero_le _,?_,a.2.1,a.2.2,?_,?_⟩
  ·simp_all[va]
  ·have:=h.own.1 (bx b (xs.flatMap f++r.j) e) (List.mem_append_right _ (List.mem_append_left _ (by grind[vo])))
   grind
  all_goals grind[G8]
theorem Y6 {c:Call} {T j:Nat} {m:Nat} (k:ApTy P T e sz j) (hf:∀ x,(f x).length=sz) (a0:∀ x,(f x).all (·.oneCell')=true)
  (v:o.op=.call c) (hc:c.callee=.builtin .append) (g:c.args=#[x,y]) (h:c.argTypes=#[T,T]) (hx:ev E x=some (vv r xs.length)) (hy:ev E y=some (.slice q m cc)) (z:m=ys.length) (hL:L=pre++(vo f e r xs++post))
  (hq:V5 Φ (sl f q ys)) (b:bT sz xs.length r) (hb:(xs.length+ys.length) * j≤140737488355328) (t:xs.length+ys.length≤9223372036854775807) :
  Tri P n X o E L Φ {d:VR // bT sz (xs++ys).length d} (fun d=>vv d.1 (xs++ys).length) (fun d=>pre++(vo f e d.1 (xs++ys)++post)) (fun _=>Φ):=by
 cases q with
 | some a=>exact Q7 k hf a0 v hc g h hx hy Z z hL hq b hb t
 | none =>
  intro ac w K Q l hk
  obtain ⟨p,hp⟩:=l.world
  have s:ys=[]:=hq p hp.facts
  subst s
  simp only [List.length_nil] at z
  subst z
  have u:=l.world
  rw [hL] at u
  obtain ⟨i,hi,_⟩:=Option.map_eq_some_iff.1 k.info
  refine B0w (by rw [v];rfl) ?_
  unfold Oper.wp
  rw [show (execOp ac.eval o).run P w=.ok (.value (vv r xs.length)) w by
   simp [execOp,v,resolve,hc,g,h,D5 l.has hx,D5 l.has hy,invoke,builtin,E7e (P:=P) (ty:=o.type) k.ty hi (F1k k hf u b) cc]]
  have:=hk ⟨r,by grind⟩ w (by grind)
  exact (by grind:K (ac.put o.dst (vv r xs.length)) w)
theorem bT.cap {n:Nat} (h:bT sz n r):n≤r.k:=by grind[bT]
theorem bT.le {n:Nat} (h:bT sz n r):n≤9223372036854775807:=by
 unfold bT at h
 split at h
 ·omega
 ·exact Nat.le_trans h.2.1 h.2.2
theorem bT.lc {n:Nat} (h:bT sz n r):n≤9223372036854775807∧n≤r.k:=⟨h.le,h.cap⟩
theorem N9 {c:Call} {f:Operand} {k:FuncId} {first cap:Array Value} {vs args:List Value} {L0 L2:Own} {Φ0:List Pers} {val:α→Value} {L1:α→Own} {Φ1:α→List Pers}
  (d:cM P k args L0 Φ0 α val L1 Φ1) (j:o.op=.call c) (q:c.callee=.value f) (i:ev E f=some (.func (.func k) first cap)) (b:c.args.toList.mapM (ev E)=some vs) (p:(first++vs.toArray++cap).toList=args)
  (hΦ:A7 Φ Φ0) (hL:L.Perm (L0++L2)) (L':α→Own) (e:∀ x,(L1 x++L2).Perm (L' x)):Tri P n X o E L Φ α val L' (fun x=>Φ1 x++Φ):=by
 intro a w K Q l m
 exact E6p d j q i b p hΦ hL a w K Q l fun x w' g=>m x w' (g.perm (e x))
theorem B2t {T:Nat} {ps:Array (Nat×Operand)} {vs:List (Nat×Value)} (p:SlTy P T e sz) (g:Nat.blt 0 (d * sz)=true) (l:o.op=.buildSlice T d ps) (q:B9n E ps.toList=some vs)
  (f:(if d * sz > 2 ^ 24 then none else match (P.info? e).bind (·.zero) with
   | some z=>Instr.fill (fun i=>some (i * sz,sz)) ((Array.range (d * sz)).map (z.cells[· % z.cells.size]!)) vs
   | none=>none)=some (xs.flatMap c++[]).toArray) :
  Tri P n X o E L Φ Nat (fun b=>.slice (some ⟨b,0,none⟩) d d) (fun b=>bx b (xs.flatMap c++[]) e::L) (fun _=>Φ):=by
 intro a w K Q m u
 have t:(ps.map fun (x:Nat×Operand)=>(x.1,a.eval x.2)).toList=vs:=by simpa using B6q m.has q
 split at f
 ·cases f
 ·rename_i j
  split at f
  ·rename_i z v
   obtain ⟨i,s,k⟩:=Option.bind_eq_some_iff.1 v
   have h:(zeroValue e).run P w=.ok z w:=by simp [zeroValue,B5m s,k]
   have hr:(execOp a.eval o).run P w=.ok (.value (.slice (some ⟨w.heap.size,0,none⟩) d d)) (w.alloc (.cells (xs.flatMap c++[]).toArray e (0,0))):=by
    have r:¬ d * sz=0:=by
     grind[Nat.blt_eq]
    simp only [execOp,l,Instr.buildSlice,Sem.run_bind,run_underlying p.ty,Result.andThen_ok,p.run,j,r,Sem.run_ite,if_false,h,Sem.run_pure,t,f,newRow,run_newObj]
    rfl
   refine B0w (by rw [l];rfl) ?_
   unfold Oper.wp
   rw [hr]
   exact u w.heap.size _ (m.world.alloc _)
  ·cases f
theorem F4c {a c:Int} (d:o.op=.binOp .rem T x y U) (f:ev E x=some (.int k a)) (e:ev E y=some (.int k b)) (hb:0<b) (h:0≤a∧a % b=c):J8 P X o E L Φ (.int k c) :=
 D3y d f e opx (by grind)
theorem F7m {a c:Int} (d:o.op=.binOp .quo T x y U) (f:ev E x=some (.int k a)) (e:ev E y=some (.int k b)) (hb:0<b) (h:(0≤a∧a≤k.max)∧a / b=c):J8 P X o E L Φ (.int k c):=by
 have g:a / b≤a:=Int.ediv_le_self b h.1.1
 have i:0≤a / b:=Int.ediv_nonneg h.1.1 opx
 refine F9m d f e opx (by grind) ?_ (by omega)
 have:k.min≤0:=by cases k<;>decide
 omega
theorem E3g (s:List UInt8) (j:Nat) (a:j<s.length):(s.flatMap cJ)[j]?=some (.int .u8 (s[j].toNat:Int)):=by
 have:=B8p (c:=cJ) (sz:=1) jJ (xs:=s) (k:=j) (v:=s[j]) (by simp [a]) 0 _ rfl
 grind
theorem C5j {S e:TypeId} {k:Nat} (l:P.underlying T=some .string) (i:P.underlying S=some (.slice e)) (d:o.op=.convert S T x) (g:ev E x=some (.slice q n' k)) (n:V5 Φ (sl cJ q s)) (m:n'=s.length) (f:(P.underlying e)=some (.int .u8)):J8 P X o E L Φ (.string (bs s)) :=
 .of_run fun t w h ⟨p,c⟩=>by
  subst m
  have b:=n p c.facts
  cases q with
  | none =>
   have b:s=[]:=b
   subst b
   simp [execOp,d,D5 h g,convert,run_underlying l,run_underlying i,run_underlying f,Conv.bytesToString]
   rfl
  | some a =>
   have b:B0p p a (s.flatMap cJ):=b
   have:=run_convert_bytes_back (P:=P) w S T e a k s i f l fun j r=>b.cell c.sub (E3g s j r)
   simp [execOp,d,D5 h g,this]
theorem E4z {S T TT:Nat} (m:P.underlying T=some .string) (l:P.underlying S=some (.slice e)) (d:o.op=.convert S T x) (g:ev E x=some (vv r s.length)) (hL:L=pre++(vo cJ TT r s++post)) (c:bT 1 s.length r) (f:(P.underlying e)=some (.int .u8)):J8 P X o E L Φ (.string (bs s)) :=
 .of_run fun u w h ⟨p,n⟩=>by
  obtain ⟨q,k,j⟩:=r
  cases q with
  | none =>
   have a:s.length=0:=c.1
   have a:s=[]:=List.eq_nil_of_length_eq_zero a
   subst a
   simp [execOp,d,D5 h g,convert,run_underlying m,run_underlying l,run_underlying f,Conv.bytesToString,va]
   rfl
  | some b =>
   have hb:=n.own.1 (bx b (s.flatMap cJ++j) TT) (by grind[vo])
   have:=run_convert_bytes_back (P:=P) w S T e ⟨b,0,none⟩ k s l f m fun i t=>by
    rw [A3j]
    simp only [World.cell?,hb.1,Nat.zero_add]
    rw [List.getElem?_toArray,List.getElem?_append_left (by rw [G8 (sz:=1) jJ];omega)]
    grind[E3g]
   simp only [execOp,d,Sem.run_bind,D5 h g]
   rw [show vv ⟨some b,k,j⟩ s.length=.slice (some ⟨b,0,none⟩) s.length k from rfl,this]
   rfl
theorem D5f {a:Int} (d:o.op=.binOp .quo T x y U) (f:ev E x=some (.int k a)) (e:ev E y=some (.int k b)) (hb:b≠0):J8 P X o E L Φ (.int k (k.wrap (a.tdiv b))):=.of_run fun g w c _=>by
 simp [execOp,d,D5 c f,D5 c e,eqGuard,binOp,Op.intDiv,hb]
theorem F4y (ok:B4 rs xss) (h:rs=[]):xss=[]:=by
 have:=ok.1
 grind
theorem I5:V5 Φ (D8 c [] []):=fun p _ i r xs h=>by simp at h
theorem M8 {r:Slc} (g:V5 Φ (sl c r.q xs)) (f:V5 Φ (D8 c rs xss)):V5 Φ (D8 c (r::rs) (xs::xss)):=fun p d i e b hr a=>by
 cases i with
 | zero=>simp only [List.getElem?_cons_zero,Option.some.injEq] at hr a;subst hr a;exact g p d
 | succ i=>simp only [List.getElem?_cons_succ] at hr a;exact f p d i e b hr a
theorem B4.none:B4 [] ([]:List (List α)):=⟨rfl,fun i r xs h=>by simp at h⟩
theorem B4.cons {r:Slc} (e:r.n=xs.length∧r.n≤r.k∧xs.length≤9223372036854775807) (c:B4 rs xss):B4 (r::rs) (xs::xss):=⟨by simp [c.1],fun i d b hr a=>by
 cases i with
 | zero=>grind
 | succ i=>simp only [List.getElem?_cons_succ] at hr a;exact c.2 i d b hr a⟩
end
end
section
variable {L0:Own} {ρ:Type} {R:Option ρ} {T:TypeId} {X':Cx} {a:Nat} {args:List Value} {b:Nat} {c:Call} {cc e:Nat} {es:Array MapEntry} {α:Type} {f:α→List Value} {i:TypeInfo} {σ:Type} {k:ρ→Option σ} {k1 m n1:Nat} {o:Oper} {ops:Array Oper} {pv:Value} {qy:Option Addr} {r:ρ} {sz:Nat} {ty:TypeId} {v:Value} {val:ρ→Value} {w:World} {x:Operand} {xs:List α} {y:Operand} {ys:List α} {Φ0:List Pers}
section
variable {P:Program} {n:Nat} {X:Cx} {K:Act→World→Prop} {Q:Exit→Act→World→Prop} {E E':cA} {L L':Own} {Φ Φ':List Pers}
theorem B8x (c:o.op=.makeMap T none):Tri P n X o E L Φ Nat (fun b=>.map (some b)) (fun b=>(b,.map #[] 0)::L) (fun _=>Φ):=by
 intro a w K Q e d
 refine B0w (by rw [c];rfl) ?_
 unfold Oper.wp
 rw [show (execOp a.eval o).run P w=.ok (.value (.map (some w.heap.size))) (w.alloc (.map #[] 0)) by
  simp_all[execOp,run_makeMap]]
 exact d w.heap.size _ (e.world.alloc _)
structure MapTy (P:Program) (T k e:Nat) (kd:TypeDesc):Prop where
 ty:P.underlying T=some (.map k e)
 key:P.underlying k=some kd
 plain:(match kd with | .int _ | .string | .bool=>true | _=>false)=true
theorem B0f {T k:Nat} {a:TypeDesc} (b:MapTy P T k e a) (c:Bool) (v:Value) (w:World):(Instr.checkKey c 10000 k v).run P w=.ok () w:=by
 have d:=b.plain
 unfold Instr.checkKey
 rw [Sem.run_bind,run_underlying b.key]
 cases a<;>simp_all
theorem B2f {T k:Nat} {a:TypeDesc} (b:MapTy P T k e a) {es:List MapEntry} {r:Option (Nat×Value)} (h:Instr.findNow a v es 0=some r) (w:World):(Instr.findKey k v es).run P w=.ok r w:=by
 unfold Instr.findKey
 rw [Sem.run_bind,run_underlying b.key]
 simp [h]
theorem F2h {r:Nat} (h:w.heap[r]?=some (.map es a)):(getObj r).run P w=.ok (.map es a) w:=by grind[getObj,Sem.run]
theorem G5u {r:Nat} (o:Obj) (h:w.heap[r]?=some (.map es a)):(setObj r o).run P w=.ok () {w with heap:=w.heap.setIfInBounds r o}:=by grind[setObj,Sem.run]
theorem D4i (d:cG X L Φ w) {i:Nat} {o:Obj} (c:L[i]?=some (b,o)):w.heap[b]?=some o:=by
 obtain ⟨p,a⟩:=d
 grind[D5z]
theorem G0 {T k:Nat} {s:TypeDesc} {m q f:Operand} {h:Value} {es':Array MapEntry} {c:Nat} (r:MapTy P T k e s) (d:o.op=.insert T m q f∨o.op=.mapUpdate T m q f) (x:ev E m=some (.map (some b))) (y:ev E q=some h) (z:ev E f=some v)
  (i:Nat) (t:L[i]?=some (b,.map es c):=by exact Z) (u:Instr.findNow s h es.toList 0=some none:=by kernel_rfl) (he:es.push ⟨h,v,c⟩=es':=by kernel_rfl) :
  Tri P n X o E L Φ Unit (fun _=>undef) (fun _=>L.set i (b,.map es' (c+1))) (fun _=>Φ):=by
 intro a w K Q g p
 have hb:=D4i g.world t
 subst he
 have hr:(execOp a.eval o).run P w=.ok .skip {w with heap:=w.heap.setIfInBounds b (.map (es.push ⟨h,v,c⟩) (c+1))}:=by
  rcases d with d | d <;>
  simp [execOp,d,D5 g.has x,D5 g.has y,D5 g.has z,Instr.mapUpdate,run_underlying r.ty,F2h hb,G5u _ hb,B0f r,B2f r u]
 have l:b<w.heap.size:=(Array.getElem?_eq_some_iff.1 hb).1
 refine B0w (by rcases d with d | d<;>rw [d]<;>rfl) ?_
 unfold Oper.wp
 rw [hr]
 refine p () _ (g.world.set t ?_ (fun j hj=>?_) Z Z Z oom)
 all_goals grind
theorem E9a {T k:Nat} {f:TypeDesc} {m g:Operand} {j:Nat} {d:Value} (c:MapTy P T k e f) (p:o.op=.lookup T m g true) (r:ev E m=some (.map (some b))) (s:ev E g=some d)
  (i:Nat) (q:L[i]?=some (b,.map es a)) (n:Instr.findNow f d es.toList 0=some (some (j,v))):J8 P X o E L Φ (.tuple #[v,.bool true]):=.of_run fun t w h l=>by
 have hb:=D4i l q
 simp [execOp,p,D5 h r,D5 h s,Instr.lookup,run_underlying c.ty,F2h hb,B0f c,B2f c n]
theorem F2m {d:TypeDesc} (b:P.underlying T=some d) (e:(match d with | .interface _=>false | _=>true)=true) (f:o.op=.makeInterface T x) (c:ev E x=some v):J8 P X o E L Φ (.iface T v):=.of_run fun g w a _=>by
 cases d<;>simp_all [execOp,Instr.makeInterface,D5 a c,run_underlying b]
def G2c {ρ:Type} (pv:Value) (val:ρ→Value):Option ρ→Ending
 | some r=>.returned (val r)
 | none=>.panicked [{v:=pv,recovered:=false}]
def D9a (P:Program) (f:FuncId) (args:List Value) (L0:Own) (Φ0:List Pers) {ρ:Type} (pv:Value) (R:Option ρ) (val:ρ→Value):Prop :=
 HasBody P f∧∀ (w:World) (h:Hp),(∀ q ∈ Φ0,q.p h)→h.sub w→A5x L0 h w →
  Calls P f args.toArray w fun e w'=>cG (cx w h (L0.map Prod.fst)) [] [] w'∧e=G2c pv val R
def F1w (P:Program) (X:Cx) (a:Func) {ρ:Type} (pv:Value) (R:Option ρ) (val:ρ→Value):Exit→Act→World→Prop :=
 bodyPostM (FW none) 0 P a fun e w'=>cG X [] [] w'∧e=G2c pv val R
theorem C1d {f:FuncId} {a:Func} {c:Code}
  (j : P.funcs[f]? = some a) (hb : a.body = some c) (i : (a.name == "runtime.NumGoroutine") = false) (l : a.ntmps = n) (g : Nat.ble args.length n = true) (E0 : cA) (hE : R0 ((List.range args.length).zip args) E0)
  (h:∀ X:Cx,X.M=L0.map Prod.fst→X.rho=none→X.D=[]→J P n X c (F1w P X a pv R val) E0 L0 Φ0):D9a P f args L0 Φ0 pv R val:=by
 refine ⟨⟨by grind⟩,fun w p m r q=>?_⟩
 have k:args.length≤n:=Nat.le_of_ble_eq_true g
 refine (callsIn_wide (n:=0)).1 (callsIn_of_wp_marks (F:=Fence.wide) j hb trivial (h (cx w p (L0.map Prod.fst)) Z Z Z _ w ⟨?_,rfl,?_,p,⟨m,r,Hp.le_refl p,fun b hb=>.inl hb,q,fun e s=>.inl (List.mem_map_of_mem s),KeptBut.refl _ w,fun d o=>by cases o⟩⟩))
 all_goals grind[C1b]
theorem E1c {a:Act} {i:Func} (hX:X'=X.wd X'.D) (c:X=X.wd []) (b:X.rho=none) (g:(X'.D.map Prod.fst).Nodup∧∀ d ∈ X'.D,d.2=.deferred (some [])) (hr:Res P n X i E L Φ v) (hR:R=some r) (k:val r=v)
  (h:St n X' E L Φ a w):LeavesInM (FW none) 0 P i a.tmps (fun e w'=>cG X [] [] w'∧e=G2c pv val R) a.defers .returning w:=by
 have j:X'.marks=X'.D.map (C3c ·.1):=by grind[Cx.marks,Cx.wd]
 rw [h.defers,j]
 refine B6l (X:=X) (L:=L) (Φ:=Φ) X'.D g.1 g.2 w (hX▸h.world) fun w' f=>⟨v,?_,?_,by rw [hR,← k];rfl⟩
 ·rw [c] at hr
  exact hr {a with defers:=[]} w' ⟨h.size,by grind[Cx.marks,Cx.wd],h.has,f⟩
 ·rw [c];exact (f.sub (List.nil_sublist _)).foll A7.nil
theorem E0s {f:Func} (hX:X'=X.wd X'.D) (b:X.rho=none∧X.D=[]) (c:(X'.D.map Prod.fst).Nodup∧∀ d ∈ X'.D,d.2=.deferred (some [])) (hr:Res P n X f E L Φ v) (hR:R=some r) (i:val r=v) :
  JQ n X' (F1w P X f pv R val .ret) E L Φ:=fun a w h=>E1c hX (by obtain ⟨j,k,M,r,D⟩:=X;obtain ⟨g,e⟩:=b;simp only at g e;subst g e;rfl) b.1 c hr hR i h
theorem C2h {f:Func} (hX:X'=X.wd X'.D) (b:X.rho=none∧X.D=[]) (c:(X'.D.map Prod.fst).Nodup∧∀ d ∈ X'.D,d.2=.deferred (some [])) (hr:Res P n X f E L Φ v) (hR:R=some r) (i:val r=v) :
  JQ n X' (F1w P X f pv R val .normal) E L Φ:=fun a w h=>E1c hX (by obtain ⟨j,k,M,r,D⟩:=X;obtain ⟨g,e⟩:=b;simp only at g e;subst g e;rfl) b.1 c hr hR i h
theorem A7s {c:Func} (b:X.rho=none∧X.D=[]) (hR:R=none) :
  JQ n X (F1w P X c pv R val (.panic [{v:=pv,recovered:=false}])) E L Φ:=fun a w d=>by
 have e:a.defers=[]:=by rw [d.defers];grind[Cx.marks]
 show LeavesInM (FW none) 0 P c a.tmps _ a.defers _ w
 rw [e,hR]
 exact ⟨(d.world.sub (List.nil_sublist _)).foll A7.nil,rfl⟩
theorem F4v {i:Nat} (f:C7f n ops i E=some o) (d:o.op=.panic x) (j:ev E x=some (.iface T v)) (h:JQ n X (Q (.panic [{v:=.iface T v,recovered:=false}])) E L Φ) :
  JI P n X ops i (m+1) K Q E L Φ:=by
 intro a w b
 obtain ⟨k,g,_⟩:=Q4 f
 rw [B6y k,List.take_succ_cons]
 refine wpListIn_step fun K' l=>?_
 rw [if_pos (A6d b.has g)]
 refine ⟨fun _ _=>trivial,?_⟩
 rw [Oper.semAt_eq _ _ _ (fun c e=>by grind)]
 rw [show (execOp a.eval o).run P w=.halt (.panic (.iface T v)) w by simp [execOp,d,D5 b.has j,Instr.panic,goPanic]]
 exact h a w b
theorem B7o {i:Nat} {u:Operand} {k:FuncId} {first cap:Array Value} {vs:List Value} {L2:Own}
  (b:D9a P k args L0 Φ0 pv R val) (hat:C7f n ops i E=some o) (t:o.op=.call c) (hc:c.callee=.value u) (hf:ev E u=some (.func (.func k) first cap)) (d:c.args.toList.mapM (ev E)=some vs) (ha:(first++vs.toArray++cap).toList=args)
  (hΦ:A7 Φ Φ0) (hL:L.Perm (L0++L2)) (y:∀ r,R=some r→JI P n X ops (i+1) m K Q (cA.put E o.dst (val r)) L2 Φ) (x:R=none→JQ n X (Q (.panic [{v:=pv,recovered:=false}])) E L2 Φ):JI P n X ops i (m+1) K Q E L Φ:=by
 intro a w f
 obtain ⟨e1,e2,e3⟩:=Q4 hat
 rw [B6y e1,List.take_succ_cons]
 refine wpListIn_step fun K' z=>?_
 rw [if_pos (A6d f.has e2)]
 obtain ⟨p,s⟩:=f.world
 have hr:=D6j f.has t hc hf d b.1 w
 have j:A5x (L0++L2) p w:=⟨fun e g=>s.own.1 e (hL.symm.subset g),(hL.map Prod.fst).nodup_iff.1 s.own.2⟩
 have:=b.2 w p (hΦ p s.facts) s.sub (j.sub (List.sublist_append_left _ _))
 rw [← ha,Array.toArray_toList] at this
 refine ⟨fun _ _=>trivial,?_⟩
 rw [Oper.semAt_eq _ _ _ (fun c q=>by grind),hr]
 refine ⟨B0x,(B8h this).mono fun e w' ⟨hw,g⟩=>?_⟩
 have l:cG X L2 Φ w':=by
  have:=cG.call s hL hw
  grind
 cases hR:R with
 | some r =>
  rw [hR] at g
  subst g
  exact z _ _ (y r hR _ _ (f.put e3 (val r) l))
 | none =>
  rw [hR] at g
  subst g
  exact x hR a w' ⟨f.size,f.defers,f.has,l⟩
theorem D7v {o:Option ρ} {R:Option σ} (h:Option.bind o k=R) (hr:o=some r):k r=R:=by grind
theorem D5j {o:Option ρ} {R:Option σ} (h:Option.bind o k=R) (hr:o=none):none=R:=by grind
theorem A9f {T:Nat} {agg:Bool} {m:Int} (i:P.underlying T=some (.array a e)) (f:Ty P e sz agg) (d:o.op=.indexAddr T x y)
  (j:ev E x=some (.pointer (some ⟨b,0,none⟩))) (h:ev E y=some (.int .i64 m)) (k:Nat) (c:m=k) (g:k<a):J8 P X o E L Φ (.pointer (some ⟨b,k * sz,none⟩)):=by
 have:=B0b (L:=L) (Φ:=Φ) (X:=X) i f d j h k c g
 simp_all[A3j]
abbrev B0n:Value:=.iface 280 (.agg #[])
theorem C9o {c:α→List Value} {q:Option Addr} (h:V5 Φ (sl c q xs)) (l m:Nat) (d:∀ x,(c x).length=sz) (b:l≤xs.length) (a:xs.length≤m):V5 Φ (sl c (B5w q l sz m) (xs.drop l)) :=
 E8b h l xs.length m d (by simp[List.take_of_length_le]) b a
theorem C7v {T q:Nat} {qx:Option Addr} (hT:ApTy P T e sz q) (hf:∀ x,(f x).length=sz) (b4:∀ x,(f x).all (·.oneCell')=true)
  (ho:o.op=.call c) (hc:c.callee=.builtin .append) (v:c.args=#[x,y]) (a6:c.argTypes=#[T,T]) (hx:ev E x=some (.slice qx n1 k1)) (hy:ev E y=some (.slice qy m cc)) (ak:n1=xs.length) (aw:k1=xs.length) (hm:m=ys.length)
  (a5:V5 Φ (sl f qx xs)) (h:V5 Φ (sl f qy ys)) (an:0<ys.length) (hb:(xs.length+ys.length) * q≤140737488355328) (a0:xs.length+ys.length≤9223372036854775807) :
  Tri P n X o E L Φ {r':VR // bT sz (xs++ys).length r'} (fun r'=>vv r'.1 (xs++ys).length) (fun r'=>L++(vo f e r'.1 (xs++ys)++[])) (fun _=>Φ):=by
 subst ak aw hm
 cases qx with
 | none =>
  intro ac w K Q t hk
  obtain ⟨p,s⟩:=t.world
  have h0:xs=[]:=a5 p s.facts
  subst h0
  exact Y6 (r:=VR.nil) (xs:=[]) (pre:=L) (post:=[]) hT hf b4 ho hc v a6 hx hy Z (by simp [vo,VR.nil]) h bT.nil hb a0 ac w K Q t hk
 | some a =>
  intro ac w K Q t hk
  obtain ⟨p,s⟩:=t.world
  cases qy with
  | none=>have h0:ys=[]:=h p s.facts;grind
  | some a' =>
   have c1:B0p p a (xs.flatMap f):=a5 p s.facts
   have c2:B0p p a' (ys.flatMap f):=h p s.facts
   obtain ⟨i,hi,b⟩:=Option.map_eq_some_iff.1 hT.info
   simp only [Prod.mk.injEq] at b
   obtain ⟨h4,h5,h6⟩:=b
   obtain ⟨z,hz,h6⟩:=Option.map_eq_some_iff.1 h6
   have a7:0<sz:=by simpa [Nat.blt_eq] using hT.pos
   obtain ⟨v',w',a1,⟨b5,b1⟩,hg⟩:=run_append_arg_grows (P:=P) w T o.type e i z sz q hT.ty hi hz h4 h5 h6 a7 a xs.length xs.length (xs.flatMap f) (G8 hf xs) (fun j u hj=>c1.cell s.sub hj)
    a' ys.length cc (ys.flatMap f) (G8 hf ys) (fun j u hj=>c2.cell s.sub hj) opx a0 hb
   have au:KeptBut (([]:Own).map Prod.fst) w w':=⟨hg.os,hg.tape,hg.output,hg.size,fun k hk _=>hg.block k hk oom⟩
   refine B0w (by rw [ho];rfl) ?_
   unfold Oper.wp
   rw [show (execOp ac.eval o).run P w=.ok (.value v') w' by
    simp [execOp,ho,resolve,hc,v,a6,D5 t.has hx,D5 t.has hy,invoke,builtin,a1]]
   rcases b1 with ⟨rfl,bk⟩ | ⟨g,cap,cur,rfl,av,l,a9,a8,ap,d⟩
   ·omega
   ·have am:cG X (L++([bx g ((xs++ys).flatMap f++cur.toList.drop ((xs.length+ys.length) * sz)) e]++[])) Φ w':=by
     refine cG.turn (L0:=[]) (show cG X (L++([]++[])) Φ w by simpa using t.world) au ?_ oom
     intro e' he
     obtain rfl:e'=_:=by simpa using he
     refine ⟨?_,.inr av⟩
     simp only
     rw [l,← List.append_assoc,← d,List.take_append_drop]
    have:=hk ⟨⟨some g,cap,cur.toList.drop ((xs.length+ys.length) * sz)⟩,?_⟩ w' (by simpa [vo] using am)
    ·simp only [vv,va,List.length_append] at this
     exact this
    ·have h9:(xs.length+ys.length) * sz≤cap * sz:=Nat.mul_le_mul_right _ a9
     refine ⟨?_,by simpa using a9,a8⟩
     simp only [List.length_drop,Array.length_toList,ap,List.length_append]
     omega
theorem E3f (s:List UInt8):byteCells (bs s)=s.flatMap cJ:=by
 simp only [byteCells,bs,cJ]
 induction s with
 | nil=>rfl
 | cons x s ih =>
  simp only [List.flatMap_cons]
  rw [← ih]
  rfl
theorem D6t {e:TypeId} (d:P.underlying T=some (.slice e)) (f:P.info? e=some i) (q a:Option Addr) (m k:Nat) (b:m≤k) (c:Nat):(Builtin.append_ #[T,T] ty #[.slice q m k,.slice a 0 c]).run P w=.ok (.slice q m k) w:=by
 cases q<;>cases a<;>simp [Builtin.append_,run_underlying d,sizeOf,typeInfo,f,Builtin.lenOf,Builtin.firstCells,b,storeCells,loadCells,loadCellsFrom]
theorem C3h {T u:Nat} {b:Option Addr} (hT:ApTy P T e sz u) (hf:∀ x,(f x).length=sz) (a8:∀ x,(f x).all (·.oneCell')=true)
  (ho:o.op=.call c) (hc:c.callee=.builtin .append) (g:c.args=#[x,y]) (s:c.argTypes=#[T,T]) (hx:ev E x=some (.slice b n1 k1)) (hy:ev E y=some (.slice qy m cc)) (h:n1=xs.length) (d:k1=xs.length) (hm:m=ys.length)
  (j:V5 Φ (sl f b xs)) (a6:V5 Φ (sl f qy ys)) (hb:(xs.length+ys.length) * u≤140737488355328) (a3:xs.length+ys.length≤9223372036854775807) :
  Tri P n X o E L Φ {t:Option Addr×Nat // (xs++ys).length≤t.2} (fun t=>.slice t.1.1 (xs++ys).length t.1.2) (fun _=>L) (fun t=>sl f t.1.1 (xs++ys)::Φ):=by
 by_cases hys:0<ys.length
 ·intro z w K Q v hk
  refine C7v hT hf a8 ho hc g s hx hy h d hm j a6 hys hb a3 z w K Q v fun r w' hw=>?_
  have:=hk ⟨(va r.1.q,r.1.k),r.2.cap⟩ w' (by have:=hw.sealed (pre:=L) (post:=[]) r.2;grind)
  omega
 ·have h0:ys=[]:=by grind
  subst h0
  subst h d hm
  intro z w K Q v hk
  obtain ⟨i,hi,_⟩:=Option.map_eq_some_iff.1 hT.info
  refine B0w (by rw [ho];rfl) ?_
  unfold Oper.wp
  rw [show (execOp z.eval o).run P w=.ok (.value (.slice b xs.length xs.length)) w by
   simp [execOp,ho,resolve,hc,g,s,D5 v.has hx,D5 v.has hy,invoke,builtin,D6t (P:=P) (ty:=o.type) hT.ty hi b qy xs.length xs.length (Nat.le_refl _) cc]]
  have:=hk ⟨(b,xs.length),by simp⟩ w (by
   obtain ⟨p,hp⟩:=v.world
   simp only [List.append_nil]
   exact ⟨p,{hp with facts:=fun q hq=>by rcases List.mem_cons.1 hq with rfl | hq;exact j p hp.facts;exact hp.facts q hq}⟩)
  exact (by grind:K (z.put o.dst (.slice b xs.length xs.length)) w)
theorem E3s {tx e:TypeId} (g:P.underlying T=some (.slice e)) (h:P.info? e=some i) {sLen sCap TT:Nat} {x:Value} {news:List Value} {cur:Array Value} (d:Src P i.size tx x m news w)
  (hb:w.heap[b]?=some (.cells cur TT (0,0))) (a:sLen+m≤sCap) (f:sLen * i.size+news.length≤cur.size) :
  (Builtin.append_ #[T,tx] ty #[.slice (some ⟨b,0,none⟩) sLen sCap,x]).run P w=.ok (.slice (some ⟨b,0,none⟩) (sLen+m) sCap) (w.setRow b (cur.toList.take (sLen * i.size)++news++cur.toList.drop (sLen * i.size+news.length)).toArray):=by
 have c:=run_storeCells_at P b (sLen * i.size) TT news 0 cur w hb (by omega) d.one
 simp only [Nat.add_zero] at c
 rcases d.kind with ⟨e',hk⟩ | hk<;>simp [Builtin.append_,run_underlying g,run_underlying hk,sizeOf,typeInfo,h,d.len,a,d.cells,A3j,c]
theorem B4z {T U:Nat} {r:VR} {xs s:List UInt8} {pre post:Own} (hT:ApTy P T e 1 1) (hz:(P.info? e).bind (·.zero)=some (.int .u8 0)) (hU:P.underlying U=some .string)
  (ho:o.op=.call c) (hc:c.callee=.builtin .append) (aq:c.args=#[x,y]) (b2:c.argTypes=#[T,U]) (hx:ev E x=some (vv r xs.length)) (hy:ev E y=some (.string (bs s))) (hL:L=pre++(vo cJ e r xs++post))
  (g:bT 1 xs.length r) (hb:xs.length+s.length≤140737488355328) :
  Tri P n X o E L Φ {r':VR // bT 1 (xs++s).length r'} (fun r'=>vv r'.1 (xs++s).length) (fun r'=>pre++(vo cJ e r'.1 (xs++s)++post)) (fun _=>Φ):=by
 intro ac w K Q hs hk
 obtain ⟨i,hi,a0⟩:=Option.map_eq_some_iff.1 hT.info
 simp only [Prod.mk.injEq] at a0
 obtain ⟨h4,h5,h6⟩:=a0
 obtain ⟨i2,a5,av⟩:=Option.bind_eq_some_iff.1 hz
 obtain rfl:i=i2:=by grind
 have f:=fun w'=>Src.ofString (P:=P) w' hU (bs s)
 rw [E3f] at f
 have hw:=hs.world
 rw [hL] at hw
 have be:(bs s).size=s.length:=rfl
 refine B0w (by rw [ho];rfl) ?_
 unfold Oper.wp
 have d:∀ v w',(Builtin.append_ #[T,U] o.type #[vv r xs.length,.string (bs s)]).run P w=.ok v w'→(execOp ac.eval o).run P w=.ok (.value v) w':=fun v w' h=>by
  simp [execOp,ho,resolve,hc,aq,b2,D5 hs.has hx,D5 hs.has hy,invoke,builtin,h]
 obtain ⟨q,k,j⟩:=r
 by_cases hroom:xs.length+s.length≤k
 ·cases q with
  | none =>
   have h0:xs.length=0∧k=0:=g
   have b0:s=[]:=List.eq_nil_of_length_eq_zero opx
   have a3:xs=[]:=List.eq_nil_of_length_eq_zero h0.1
   obtain ⟨_,b1⟩:=h0
   subst b0 a3 b1
   have:=run_append_nothing (P:=P) w T U o.type e i hT.ty hi none 0 0 (Nat.le_refl _) (.string (bs [])) (by grind)
   rw [d _ _ this]
   exact hk ⟨⟨none,0,j⟩,g⟩ w (by grind)
  | some b =>
   have a7:xs.length * 1+j.length=k * 1∧xs.length≤k∧k≤maxLen:=g
   obtain ⟨p,hp⟩:=hw
   have z:=(hp.own.1 (bx b (xs.flatMap cJ++j) e) (List.mem_append_right _ (List.mem_append_left _ (by simp [vo])))).1
   have a:∀ l:List UInt8,(l.flatMap cJ).length=l.length:=fun l=>by rw [G8 (sz:=1) jJ];omega
   have:=E3s (P:=P) (w:=w) (T:=T) (tx:=U) (ty:=o.type) hT.ty hi (b:=b) (sLen:=xs.length) (sCap:=k) (m:=s.length) (TT:=e) (x:=.string (bs s)) (news:=s.flatMap cJ) (cur:=(xs.flatMap cJ++j).toArray) (by grind) z hroom (by grind)
   rw [d _ _ this]
   have e1:(((xs.flatMap cJ++j).toArray.toList.take (xs.length * i.size)++s.flatMap cJ++(xs.flatMap cJ++j).toArray.toList.drop (xs.length * i.size+(s.flatMap cJ).length)).toArray)=(((xs++s).flatMap cJ)++j.drop s.length).toArray:=by
    simp_all[List.drop_append]
   rw [e1]
   have a4:KeptBut (([bx b (xs.flatMap cJ++j) e]:Own).map Prod.fst) w (w.setRow b (((xs++s).flatMap cJ)++j.drop s.length).toArray):=⟨rfl,rfl,rfl,by simp,fun k' ar hm=>setRow_other w b k' _ (by grind)⟩
   have a1:cG X (pre++([bx b ((xs++s).flatMap cJ++j.drop s.length) e]++post)) Φ (w.setRow b (((xs++s).flatMap cJ)++j.drop s.length).toArray):=by
    refine cG.turn (L0:=[bx b (xs.flatMap cJ++j) e]) ⟨p,hp⟩ a4 ?_ oom
    intro e' he
    obtain rfl:e'=_:=by simpa using he
    refine ⟨?_,.inl oom⟩
    grind[setRow_heap]
   have:=hk ⟨⟨some b,k,j.drop s.length⟩,?_⟩ _ a1
   ·simp only [vv,va,List.length_append] at this
    exact this
   ·refine ⟨?_,by simpa using hroom,a7.2.2⟩
    simp only [List.length_drop,List.length_append];omega
 ·have hg:k<xs.length+s.length:=by omega
  have b9:0<i.size:=by rw [h4];exact Nat.one_pos
  obtain ⟨p,hp⟩:=hw
  have a:∀ l:List UInt8,(l.flatMap cJ).length=l.length:=fun l=>by rw [G8 (sz:=1) jJ];omega
  have a8:∀ w':World,(w'.heap=w.heap)→(Builtin.firstCells i.size xs.length (.slice (va q) xs.length k)).run P w'=.ok (xs.flatMap cJ).toArray w':=by
   intro w' ay
   cases q with
   | none =>
    have h0:xs.length=0∧k=0:=g
    have a3:xs=[]:=List.eq_nil_of_length_eq_zero h0.1
    subst a3
    simp [va,Builtin.firstCells]
   | some b =>
    have z:=(hp.own.1 (bx b (xs.flatMap cJ++j) e) (List.mem_append_right _ (List.mem_append_left _ (by simp [vo])))).1
    exact run_firstCells_some w' i.size xs.length ⟨b,0,none⟩ xs.length k (xs.flatMap cJ) (by rw [a,h4];omega) fun t u ht=>by
     rw [A3j]
     simp only [World.cell?,ay,z,Nat.zero_add]
     rw [List.getElem?_toArray,List.getElem?_append_left (List.getElem?_eq_some_iff.1 ht).1]
     exact ht
  have hr:=run_append_grow_src (P:=P) w T U o.type e i (.int .u8 0) hT.ty hi av (va q) xs.length k (xs.flatMap cJ) (a8 w.drew Z) (.string (bs s)) s.length (s.flatMap cJ) (by rw [h4];exact f w) hg opx (growslice_fits hg (by rw [h5];omega))
  rw [d _ _ hr]
  have ax:=grownCap_ge w (xs.length+s.length) k e
  have ap:grownCap w (xs.length+s.length) k e≤maxLen:=grownCap_le_maxLen w (xs.length+s.length) k e (by unfold maxLen;omega)
  have a4:KeptBut ((vo cJ e ⟨q,k,j⟩ xs).map Prod.fst) w (w.drew.alloc (.cells ((xs.flatMap cJ++s.flatMap cJ).toArray++Builtin.zeroCells (Value.int .u8 0).cells (grownCap w (xs.length+s.length) k e - (xs.length+s.length))) e)) :=
   ⟨rfl,rfl,rfl,by simp,fun k' ar _=>(by show (w.heap.push _)[k']?=_;rw [Array.getElem?_push,if_neg opx])⟩
  have a1:cG X (pre++([bx w.heap.size ((xs++s).flatMap cJ++(Builtin.zeroCells (Value.int .u8 0).cells (grownCap w (xs.length+s.length) k e - (xs.length+s.length))).toList) e]++post)) Φ (w.drew.alloc (.cells ((xs.flatMap cJ++s.flatMap cJ).toArray++Builtin.zeroCells (Value.int .u8 0).cells (grownCap w (xs.length+s.length) k e - (xs.length+s.length))) e)):=by
   refine cG.turn (L0:=vo cJ e ⟨q,k,j⟩ xs) ⟨p,hp⟩ a4 ?_ oom
   intro e' he
   obtain rfl:e'=_:=by simpa using he
   refine ⟨?_,.inr (Nat.le_refl _)⟩
   simp only
   rw [show (w.drew.alloc (Obj.cells ((xs.flatMap cJ++s.flatMap cJ).toArray++Builtin.zeroCells (Value.int .u8 0).cells (grownCap w (xs.length+s.length) k e - (xs.length+s.length))) e)).heap[w.heap.size]?=_ from heap_alloc_new w.drew _]
   simp [List.flatMap_append]
  have:=hk ⟨⟨some w.heap.size,grownCap w (xs.length+s.length) k e,(Builtin.zeroCells (Value.int .u8 0).cells (grownCap w (xs.length+s.length) k e - (xs.length+s.length))).toList⟩,?_⟩ _ a1
  ·simp only [vv,va,List.length_append] at this
   exact this
  ·refine ⟨?_,by simpa using ax,ap⟩
   have b3:(Value.int IntKind.u8 0).cells.size=1:=rfl
   simp only [Array.length_toList,size_zeroCells,b3,List.length_append];omega
theorem B4p {n:Int}:Value.int .u8 (IntKind.u8.wrap n)=.int .u8 ((by8 (IntKind.u8.wrap n)).toNat:Int):=by grind[E0d,IntKind.wrap,IntKind.bits,IntKind.signed]
theorem D0f {c:BinOp} {a b:Int}:Value.int .u8 (cH c .u8 a b)=.int .u8 ((by8 (cH c .u8 a b)).toNat:Int):=by simp[cH,B4p]
end
end
end Go.Fen
namespace Go.Fen
open Go
section
variable {T:Nat} {α:Type} {c:α→List Value} {e k m:Nat} {o:Oper} {q:Option Addr} {r:Slc} {rs rs':List Slc} {sz:Nat} {x:Operand} {xs:List α} {xss xss':List (List α)} {y:Operand}
theorem B4.append (a:B4 rs xss) (c:B4 rs' xss'):B4 (rs++rs') (xss++xss'):=by
 refine ⟨by simp [a.1,c.1],fun i r xs hr b=>?_⟩
 by_cases hi:i<rs.length
 ·rw [List.getElem?_append_left hi] at hr
  rw [List.getElem?_append_left jV] at b
  exact a.2 i r xs hr b
 ·have:=a.1
  rw [List.getElem?_append_right opx] at hr
  rw [List.getElem?_append_right opx] at b
  exact c.2 (i - rs.length) r xs hr (by grind)
theorem B4.set (h:B4 rs xss) (k:Nat) (hr:r.n=xs.length∧r.n≤r.k∧xs.length≤9223372036854775807):B4 (rs.set k r) (xss.set k xs):=by
 refine ⟨by simp [h.1],fun i d c b a=>?_⟩
 rw [List.getElem?_set] at b a
 by_cases hk:k=i
 ·grind
 ·simp only [hk,if_false] at b a
  exact h.2 i d c b a
section
variable {P:Program} {n:Nat} {X:Cx} {K:Act→World→Prop} {Q:Exit→Act→World→Prop} {E E':cA} {L L':Own} {Φ Φ':List Pers}
theorem D1o (d:rs.length=xss.length) (f:V5 Φ (D8 c rs xss)) (e:V5 Φ (D8 c rs' xss')):V5 Φ (D8 c (rs++rs') (xss++xss')):=fun p b i r xs hr a=>by
 by_cases hi:i<rs.length
 ·rw [List.getElem?_append_left hi] at hr
  rw [List.getElem?_append_left opx] at a
  exact f p b i r xs hr a
 ·rw [List.getElem?_append_right opx] at hr
  rw [List.getElem?_append_right opx] at a
  exact e p b (i - rs.length) r xs hr (by grind)
theorem E5r (k:Nat) (g:V5 Φ (D8 c rs xss)) (f:V5 Φ (sl c r.q xs)):V5 Φ (D8 c (rs.set k r) (xss.set k xs)):=fun p d i e b hr a=>by
 rw [List.getElem?_set] at hr a
 by_cases hk:k=i
 ·subst hk
  simp only [if_true] at hr a
  split at hr
  ·split at a
   ·obtain rfl:=Option.some.inj hr
    obtain rfl:=Option.some.inj a
    exact f p d
   ·cases a
  grind
 ·simp only [hk,if_false] at hr a
  exact g p d i e b hr a
theorem K5 {c:Call} {b:Nat} {cc:α→List Value} {r:VR} {ys:List Slc} {yss:List (List α)} {kk:Nat} {pre post:Own} (hT:ApTy P T e 1 b)
  (ho:o.op=.call c) (hc:c.callee=.builtin .append) (g:c.args=#[x,y]) (i:c.argTypes=#[T,T]) (hx:ev E x=some (vv r k)) (hk:k=xss.length) (hy:ev E y=some (.slice q m kk)) (hm:m=yss.length) (hL:L=pre++(vo F0 e r rs++post))
  (hq:V5 Φ (sl F0 q ys)) (h1:V5 Φ (D8 cc rs xss)) (h2:V5 Φ (D8 cc ys yss)) (s:B4 rs xss) (h:B4 ys yss) (t:bT 1 xss.length r) (hb:(xss.length+yss.length) * b≤140737488355328) (a8:xss.length+yss.length≤9223372036854775807) :
  Tri P n X o E L Φ {a:VR // bT 1 (xss++yss).length a} (fun a=>vv a.1 (xss++yss).length) (fun a=>pre++(vo F0 e a.1 (rs++ys)++post)) (fun _=>D8 cc (rs++ys) (xss++yss)::Φ):=by
 have d:=s.1
 have u:=h.1
 have v:(rs++ys).length=(xss++yss).length:=by grind
 intro ac w K Q hs hK
 refine Y6 (f:=F0) (xs:=rs) (ys:=ys) hT jJ jJ ho hc g i (by grind) hy opx hL hq (by grind) (by grind) opx ac w K Q hs fun a w' hw=>?_
 have:=hK ⟨a.1,v▸a.2⟩ w' (by
  obtain ⟨p,l⟩:=hw
  exact ⟨p,{l with facts:=fun z j=>by rcases List.mem_cons.1 j with rfl | j;exact D1o d h1 h2 p l.facts;exact l.facts z j}⟩)
 grind
theorem E2x {w:World} {T tx ty e:TypeId} {i:TypeInfo} {z:Value} (k:P.underlying T=some (.slice e)) (o:P.underlying tx=some (.int .i64)) (n:P.info? e=some i) (q:i.zero=some z) (m:Nat) (l:0<m)
  (p:m≤9223372036854775807) (j:m * i.bytes≤281474976710656) (r:0<i.size) :
  (Builtin.append_ #[T,tx] ty #[.slice none 0 0,.int .i64 m]).run P w =
   .ok (.slice (some ⟨w.heap.size,0,none⟩) m (grownCap w m 0 e)) (w.drew.alloc (.cells (Builtin.zeroCells z.cells m++Builtin.zeroCells z.cells (grownCap w m 0 e - m)) e)):=by
 have f:m≠0:=by omega
 have a:¬ (9223372036854775807<(m:Int)):=by omega
 have c:¬ (281474976710656<Builtin.nextslicecap m 0 * i.bytes):=by grind[nextslicecap_zero]
 have g:IntKind.i64.wrap (m:Int)=m:=A3b (by show (-9223372036854775808:Int)≤_;omega) (by simp_all)
 have b:¬ ((m:Int)<0):=by omega
 have hb:¬ (281474976710656<(m:Int) * (i.bytes:Int)):=by omega
 have d:i.size≠0:=by omega
 simp [Builtin.append_,run_underlying k,run_underlying o,sizeOf,typeInfo,zeroValue,n,q,Builtin.lenOf,f,a,c,g,b,hb,d,Question.forced,run_firstCells_none,newRow,grownCap,asInt,asIntOf]
 grind[Nat.mul_ne_zero]
theorem E3e {c:Call} {tx g:Nat} {f:α→List Value} (r:ApTy P T e sz g) (l:P.underlying tx=some (.int .i64))
  (ho:o.op=.call c) (hc:c.callee=.builtin .append) (j:c.args=#[x,y]) (s:c.argTypes=#[T,tx]) (hx:ev E x=some (.slice none 0 0)) (hy:ev E y=some (.int .i64 (m:Int))) (h0:0<m) (hb:m * g≤140737488355328) (t:m≤9223372036854775807) :
  Tri P n X o E L Φ {b:VR // bT sz 0 b∧m≤b.k} (fun b=>.slice (va b.1.q) m b.1.k) (fun b=>L++(vo f e b.1 []++[])) (fun _=>Φ):=by
 intro ac w K Q u hk
 obtain ⟨i,hi,a⟩:=Option.map_eq_some_iff.1 r.info
 simp only [Prod.mk.injEq] at a
 obtain ⟨h4,h5,v⟩:=a
 obtain ⟨z,hz,v⟩:=Option.map_eq_some_iff.1 v
 have a2:0<sz:=by simpa [Nat.blt_eq] using r.pos
 have h:=grownCap_ge w m 0 e
 have a0:=grownCap_le_maxLen w m 0 e (by grind[maxLen])
 refine B0w (by rw [ho];rfl) ?_
 unfold Oper.wp
 rw [show (execOp ac.eval o).run P w=.ok (.value (.slice (some ⟨w.heap.size,0,none⟩) m (grownCap w m 0 e))) (w.drew.alloc (.cells (Builtin.zeroCells z.cells m++Builtin.zeroCells z.cells (grownCap w m 0 e - m)) e)) by
  simp [execOp,ho,resolve,hc,j,s,D5 u.has hx,D5 u.has hy,invoke,builtin,E2x (P:=P) (ty:=o.type) r.ty l hi hz m h0 t (by grind) opx]]
 obtain ⟨cur,hcur⟩:∃ cur,cur=Builtin.zeroCells z.cells m++Builtin.zeroCells z.cells (grownCap w m 0 e - m):=⟨_,rfl⟩
 rw [← hcur]
 have d:cur.toList.length=grownCap w m 0 e * sz:=by
  rw [hcur];simp only [Array.length_toList,Array.size_append,size_zeroCells,v,← Nat.add_mul];grind
 have:=hk ⟨⟨some w.heap.size,grownCap w m 0 e,cur.toList⟩,⟨by simp [d],Nat.zero_le _,a0⟩,h⟩ (w.drew.alloc (.cells cur e)) (by
  refine cG.turn (L0:=[]) (show cG X (L++([]++[])) Φ w by simpa using u.world) ⟨rfl,rfl,rfl,by simp,fun k p _=>heap_alloc_old w.drew _ p⟩ ?_ (by simp [vo])
  intro e' he
  obtain rfl:e'=_:=by simpa [vo] using he
  exact ⟨by simpa using heap_alloc_new w.drew (.cells cur e),.inr (Nat.le_refl _)⟩)
 exact (by grind[va]:K (ac.put o.dst (.slice (some ⟨w.heap.size,0,none⟩) m (grownCap w m 0 e))) (w.drew.alloc (.cells cur e)))
theorem C9w {ops:Array Oper} {c:Nat} {b:Array Bool} {d:A2q} {Φs:List Pers} {q:Pers} (f:V5 Φ q) (h:JH P n X ops c b K d Φs E L (q::Φ)):JH P n X ops c b K d Φs E L Φ :=
 ⟨fun h1 h2 hsz hL hΦ a w hs=>h.go h1 h2 hsz hL (fun p e=>hΦ p (fun z g=>e z (List.mem_cons_of_mem _ g))) a w ⟨hs.size,hs.defers,hs.has,hs.world.fact q f⟩⟩
theorem F0d {c:Call} (h:SlTy P T e sz) (d:o.op=.call c) (i:c.callee=.builtin .cap) (a:c.args=#[x]) (b:c.argTypes=#[T]) (f:ev E x=some (.slice q m k)):J8 P X o E L Φ (.int .i64 k):=.of_run fun j w g _=>by
 simp [execOp,d,resolve,i,a,b,D5 g f,invoke,builtin,Builtin.cap_,run_underlying h.ty,goInt]
end
end
end Go.Fen
namespace Go.Fen
open Go Go.RowKit
section
variable {T:Nat} {α:Type} {c:α→List Value} {e:Nat} {f:α→List Value} {k:Nat} {o:Oper} {sz:Nat} {x:Operand} {xs:List α} {y:Operand}
section
variable {P:Program} {n:Nat} {X:Cx} {K:Act→World→Prop} {Q:Exit→Act→World→Prop} {E E':cA} {L L':Own} {Φ Φ':List Pers}
theorem F0u {ops:Array Oper} {b:Array Bool} {d:A2q} {Φs:List Pers} {r:VR} (pre post:Own) (f:bT sz xs.length r) (hL:L=pre++(vo c T r xs++post))
  (Lh:Own) (i:d.at b=Lh) (j:Lh.Sublist (pre++post)) (h:JH P n X ops e b K d Φs E (pre++post) (sl c (va r.q) xs::Φ)):JH P n X ops e b K d Φs E L Φ :=
 ⟨fun h1 h2 hsz _ hΦ a w hs=>h.go h1 h2 hsz (i▸j) (fun p g=>hΦ p (fun z k=>g z (List.mem_cons_of_mem _ k))) a w ⟨hs.size,hs.defers,hs.has,by have:=hs.world;rw [hL] at this;exact this.sealed f⟩⟩
theorem D0t (a:∀ x,(c x).length=sz) (d:α):∀ (xs:List α) (k:Nat),k<xs.length→((xs.flatMap c).drop (k * sz)).take sz=c (xs.getD k d)
 | [],k,h=>by simp at h
 | x::xs,0,_=>by grind
 | x::xs,k+1,h=>by
  have:=D0t a d xs k (by grind)
  rw [List.flatMap_cons,Nat.succ_mul,Nat.add_comm,← List.drop_drop,← a x,List.drop_left,a x,this];simp
theorem E8o {a:Nat} {cs:List Value} {m:Int} {v:Value} {d:α} (q:P.underlying T=some (.array a e)) {agg:Bool} (n:Ty P e sz agg) (r:∀ x,(c x).length=sz) (g:o.op=.index T x y)
  (j:ev E x=some (.agg cs.toArray)) (b:cs=xs.flatMap c) (i:ev E y=some (.int .i64 m)) (k:Nat) (l:m=k) (f:xs.length=a) (h:k<a) (p:(if agg then some (.agg (c (xs.getD k d)).toArray) else (c (xs.getD k d))[0]?)=some v) (s:Nat.blt 0 sz=true):J8 P X o E L Φ v :=
 F3 (us:=c (xs.getD k d)) q n g j i k l h (by rw [b];exact D0t r d xs k opx) p s
theorem D0l (e:∀ x,(c x).length=sz) (d:α) {j:Nat} (a:k<xs.length) (b:j<sz):(xs.flatMap c)[k * sz+j]?=(c (xs.getD k d))[j]?:=by
 rw [← D0t e d xs k a,List.getElem?_take,if_pos b,List.getElem?_drop]
theorem F9n (a:∀ x,(f x).length=sz) (d:α) (n:Nat):(madeCells (f d).toArray (n * sz)).toList=(List.replicate n d).flatMap f:=by
 apply List.ext_getElem?
 intro i
 by_cases h0:sz=0
 ·simp_all[madeCells]
 ·by_cases hi:i<n * sz
  ·have b:i / sz<n:=by rw [Nat.div_lt_iff_lt_mul opx];exact hi
   have c:i % sz<sz:=Nat.mod_lt _ opx
   have e:i / sz * sz+i % sz=i:=by simp[Nat.mul_comm,Nat.div_add_mod]
   have g:=D0l a d (xs:=List.replicate n d) (k:=i / sz) (j:=i % sz) (by grind) c
   grind[madeCells]
  simp_all[madeCells]
theorem C8o {b l c:Nat} (d:α) (hT:ApTy P T e sz b) (hz:((P.info? e).bind (·.zero)).map (·.cells)=some (f d).toArray) (hf:∀ x,(f x).length=sz)
  (ho:o.op=.makeSlice T x y) (hx:ev E x=some (.int .i64 (l:Int))) (hy:ev E y=some (.int .i64 (c:Int))) (u:l≤c) (hb:c * b≤140737488355328) (a9:c≤9223372036854775807) :
  Tri P n X o E L Φ {g:VR // bT sz (List.replicate l d).length g} (fun g=>.slice (va g.1.q) (List.replicate l d).length g.1.k) (fun g=>L++(vo f e g.1 (List.replicate l d)++[])) (fun _=>Φ):=by
 intro ac w K Q t hk
 obtain ⟨i,hi,a⟩:=Option.map_eq_some_iff.1 hT.info
 simp only [Prod.mk.injEq] at a
 obtain ⟨h4,h5,h6⟩:=a
 obtain ⟨z,j,h7⟩:=Option.map_eq_some_iff.1 h6
 have s:z.cells=(f d).toArray:=by grind
 have r:(i.bytes:Int) * (c:Int)≤281474976710656:=by
  grind
 have hr:=run_make (P:=P) w T e i z hT.ty hi j .i64 .i64 l c opx opx r opx
 simp only [Int.toNat_natCast,h4,s] at hr
 refine B0w (by rw [ho];rfl) ?_
 unfold Oper.wp
 rw [show (execOp ac.eval o).run P w=.ok (.value (.slice (some ⟨w.heap.size,0,none⟩) l c)) (w.alloc (.cells (madeCells (f d).toArray (c * sz)) e)) by
  simp [execOp,ho,D5 t.has hx,D5 t.has hy,hr]]
 have v:(madeCells (f d).toArray (c * sz)).toList=(List.replicate l d).flatMap f++(List.replicate (c - l) d).flatMap f:=by
  rw [F9n hf,← List.flatMap_append,List.replicate_append_replicate];grind
 have p:((List.replicate (c - l) d).flatMap f).length=(c - l) * sz:=by simp_all
 have:=hk ⟨⟨some w.heap.size,c,(List.replicate (c - l) d).flatMap f⟩,by
  refine ⟨?_,by grind,by grind[maxLen]⟩
  simp only [List.length_replicate,p,← Nat.add_mul];grind⟩ (w.alloc (.cells (madeCells (f d).toArray (c * sz)) e)) (by
  refine cG.turn (L0:=[]) (show cG X (L++([]++[])) Φ w by simpa using t.world) ⟨rfl,rfl,rfl,by simp,fun k m _=>heap_alloc_old w _ m⟩ ?_ (by simp [vo])
  intro e' he
  obtain rfl:e'=_:=by simpa [vo] using he
  refine ⟨?_,.inr (Nat.le_refl _)⟩
  rw [← v]
  simpa using heap_alloc_new w (.cells (madeCells (f d).toArray (c * sz)) e))
 exact (by grind[va]:K (ac.put o.dst (.slice (some ⟨w.heap.size,0,none⟩) l c)) (w.alloc (.cells (madeCells (f d).toArray (c * sz)) e)))
theorem E8q {c:Call} {d:Nat} {q h:Option Addr} {m cc:Nat} (g:ApTy P T e sz d) (j:o.op=.call c) (s:c.callee=.builtin .append) (a:c.args=#[x,y]) (b:c.argTypes=#[T,T])
  (p:ev E x=some (.slice q m k)) (l:ev E y=some (.slice h 0 cc)) (r:m≤k):J8 P X o E L Φ (.slice q m k):=.of_run fun t w f _=>by
 obtain ⟨i,n,_⟩:=Option.map_eq_some_iff.1 g.info
 have:=D6t (P:=P) (w:=w) (ty:=o.type) g.ty n q h m k r cc
 simp [execOp,j,resolve,s,a,b,D5 f p,D5 f l,invoke,builtin,this]
end
def B5 {α β:Type} (x:α) (k:α→β):β:=k x
theorem C3 {β:Type} {x:α} {k:α→β} {R:β} (h:B5 x k=R):∃ r,x=r∧k r=R:=⟨x,rfl,h⟩
@[simp] theorem G3r {α β:Type} (x:α) (k:α→β):B5 x k=k x:=rfl
end
section
variable {ρ:Type} {R:Option ρ} {T:Nat} {a args:List Value} {b:Nat} {cap:Array Value} {e:Nat} {es:Array MapEntry} {first:Array Value} {g:Nat} {k:Int} {kt:Nat} {l:List (Int×Value)} {m:Operand} {o:Oper} {pv v:Value} {val:ρ→Value} {z:Value} {Φ0 Φ1:List Pers} {β:Type}
def G2h (x:Int):List Value:=[.int .u64 x]
def lkV (k:Int) (z:Value):List (Int×Value)→Value
 | []=>z
 | (a,v)::r=>bif decide (k=a) then v else lkV k z r
def A4b {α:Type} (k:Int):List (Int×α)→Bool
 | []=>false
 | (a,_)::r=>bif decide (k=a) then true else A4b k r
def lkB (k:Int) (z:Bool):List (Int×Bool)→Bool
 | []=>z
 | (a,v)::r=>bif decide (k=a) then v else lkB k z r
def C1:List (Int×Value)→Nat→List MapEntry
 | [],_=>[]
 | (a,v)::r,j=>⟨.int .i64 a,v,j⟩::C1 r (j+1)
theorem D0u (k:Int):∀ (l:List (Int×Value)) (j i:Nat),∃ r,Instr.findNow (.int .i64) (.int .i64 k) (C1 l j) i=some r ∧
  (r=none→A4b k l=false∧∀ z,lkV k z l=z)∧∀ p,r=some p→A4b k l=true∧∀ z,lkV k z l=p.2
 | [],j,i=>⟨none,rfl,fun _=>⟨rfl,fun _=>Z⟩,fun _ h=>by cases h⟩
 | (a,v)::l,j,i=>by
  by_cases h:k=a
  ·simp_all[C1,Instr.findNow,Instr.sameNow,A4b,lkV]
  ·obtain ⟨r,d,c,f⟩:=D0u k l (j+1) (i+1)
   refine ⟨r,?_,fun e=>?_,fun p b=>?_⟩
   ·have hb:(k == a)=false:=by simpa using h
    simp only [C1,Instr.findNow,Instr.sameNow,if_true,hb];exact d
   ·simpa [A4b,lkV,h] using c e
   ·simpa [A4b,lkV,h] using f p b
section
variable {P:Program} {n:Nat} {X:Cx} {K:Act→World→Prop} {Q:Exit→Act→World→Prop} {E E':cA} {L L':Own} {Φ Φ':List Pers}
theorem G2w {α:Type} {c:α→List Value} {a:Addr} {xs:List α} {us:List Value} (j:Nat) (h:Φ[j]?=some (sl c (some a) xs)) (d:xs.flatMap c=us):V5 Φ (at_ a us) :=
 fun p b=>d▸(show B0p p a (xs.flatMap c) from b _ (List.mem_of_getElem? h))
theorem E5c {s:Operand} (l:List (Int×Value)) (a:MapTy P T kt e (.int .i64)) (h:o.op=.lookup T m s false) (n:ev E m=some (.map (some b))) (q:ev E s=some (.int .i64 k))
  (i:Nat) (y:L[i]?=some (b,.map es g)) (he:es.toList=C1 l 0) (hz:(P.info? e).bind (·.zero)=some z):J8 P X o E L Φ (lkV k z l):=.of_run fun ac w c t=>by
 have hb:=D4i t y
 obtain ⟨a4,h1,u⟩:=Option.bind_eq_some_iff.1 hz
 have f:(zeroValue e).run P w=.ok z w:=by simp_all[zeroValue,B5m]
 obtain ⟨r,d,hn,x⟩:=D0u k l 0 0
 rw [← he] at d
 cases r with
 | none =>
  rw [(hn rfl).2]
  simp [execOp,h,D5 c n,D5 c q,Instr.lookup,run_underlying a.ty,F2h hb,B0f a,B2f a d,f]
 | some p =>
  rw [(x p rfl).2]
  obtain ⟨j,v⟩:=p
  simp [execOp,h,D5 c n,D5 c q,Instr.lookup,run_underlying a.ty,F2h hb,B0f a,B2f a d]
theorem B0i {u:Operand} (l:List (Int×Value)) (a:MapTy P T kt e (.int .i64)) (h:o.op=.lookup T m u true) (s:ev E m=some (.map (some b))) (t:ev E u=some (.int .i64 k))
  (i:Nat) (hi:L[i]?=some (b,.map es g)) (he:es.toList=C1 l 0) (hz:(P.info? e).bind (·.zero)=some z):J8 P X o E L Φ (.tuple #[lkV k z l,.bool (A4b k l)]):=.of_run fun ac w c x=>by
 have hb:=D4i x hi
 obtain ⟨a4,h1,y⟩:=Option.bind_eq_some_iff.1 hz
 have f:(zeroValue e).run P w=.ok z w:=by simp_all[zeroValue,B5m]
 obtain ⟨r,d,q,n⟩:=D0u k l 0 0
 rw [← he] at d
 cases r with
 | none =>
  rw [(q rfl).2,(q rfl).1]
  simp [execOp,h,D5 c s,D5 c t,Instr.lookup,run_underlying a.ty,F2h hb,B0f a,B2f a d,f]
 | some p =>
  rw [(n p rfl).2,(n p rfl).1]
  obtain ⟨j,v⟩:=p
  simp [execOp,h,D5 c s,D5 c t,Instr.lookup,run_underlying a.ty,F2h hb,B0f a,B2f a d]
theorem F1m (F:Value→Value→Value) (k:Int) (z1 z2:Value):∀ (l:List (Int×Value×Value)),lkV k (F z1 z2) (l.map fun x=>(x.1,F x.2.1 x.2.2))=F (lkV k z1 (l.map fun x=>(x.1,x.2.1))) (lkV k z2 (l.map fun x=>(x.1,x.2.2)))
 | []=>rfl
 | (a,u,v)::l=>by
  simp only [List.map_cons,lkV]
  cases decide (k=a) with
  | true=>rfl
  | false=>exact F1m F k z1 z2 l
theorem E0x (F:Value→Value→Value→Value) (k:Int) (z1 z2 z3:Value):∀ (l:List (Int×Value×Value×Value)),lkV k (F z1 z2 z3) (l.map fun x=>(x.1,F x.2.1 x.2.2.1 x.2.2.2)) =
  F (lkV k z1 (l.map fun x=>(x.1,x.2.1))) (lkV k z2 (l.map fun x=>(x.1,x.2.2.1))) (lkV k z3 (l.map fun x=>(x.1,x.2.2.2)))
 | []=>rfl
 | (a,u,v,w)::l=>by
  simp only [List.map_cons,lkV]
  cases decide (k=a) with
  | true=>rfl
  | false=>exact E0x F k z1 z2 z3 l
theorem E7o (k:Int) (z:Bool):∀ (l:List (Int×Bool)),lkV k (.bool z) (l.map fun x=>(x.1,.bool x.2))=.bool (lkB k z l)
 | []=>rfl
 | (a,v)::l=>by
  simp only [List.map_cons,lkV,lkB]
  cases decide (k=a) with
  | true=>rfl
  | false=>exact E7o k z l
def D7 (P:Program) (a:Value) (args:List Value) (Φ0:List Pers) (v:Value):Prop :=
 ∃ (k:FuncId) (first cap:Array Value),a=.func (.func k) first cap∧J7 P k ((first++args.toArray++cap).toList) Φ0 v
theorem D7.of {k:FuncId} (h:J7 P k a Φ1 v) (e:(first++args.toArray++cap).toList=a) (b:A7 Φ0 Φ1):D7 P (.func (.func k) first cap) args Φ0 v :=
 ⟨k,first,cap,rfl,e▸⟨h.1,fun w p d f c=>h.2 w p (b p d) f c⟩⟩
theorem D7.cons (val:ρ→Value) {a:Int} {c b:ρ} (h:A4b k ((a,v)::l)=true) (f:k=a→D7 P v args Φ0 (val c)) (d:A4b k l=true→¬ k=a→D7 P (lkV k z l) args Φ0 (val b)) :
  D7 P (lkV k z ((a,v)::l)) args Φ0 (val (bif decide (k=a) then c else b)):=by
 grind[lkV,A4b]
theorem D7.nil (h:A4b k ([]:List (Int×Value))=true):D7 P z args Φ0 v:=by cases h
theorem B0h {c:Call} {e:Operand} {a:Value} {vs:List Value}
  (d:D7 P a vs Φ0 v) (g:o.op=.call c) (i:c.callee=.value e) (f:ev E e=some a) (b:c.args.toList.mapM (ev E)=some vs) (hΦ:A7 Φ Φ0):Det P X o E L Φ v:=by
 obtain ⟨k,first,cap,rfl,h⟩:=d
 exact B7j h g i f b Z hΦ
def D2s (P:Program) (a:Value) (args:List Value) (Φ0:List Pers) {ρ:Type} (pv:Value) (R:Option ρ) (val:ρ→Value):Prop :=
 ∃ (k:FuncId) (first cap:Array Value),a=.func (.func k) first cap∧D9a P k ((first++args.toArray++cap).toList) [] Φ0 pv R val
theorem D2s.of {k:FuncId} (h:D9a P k a [] Φ1 pv R val) (e:(first++args.toArray++cap).toList=a) (b:A7 Φ0 Φ1):D2s P (.func (.func k) first cap) args Φ0 pv R val :=
 ⟨k,first,cap,rfl,e▸⟨h.1,fun w p d f c=>h.2 w p (b p d) f c⟩⟩
theorem D2s.cons {a:Int} {c b:Option ρ} (h:A4b k ((a,v)::l)=true) (f:k=a→D2s P v args Φ0 pv c val) (d:A4b k l=true→¬ k=a→D2s P (lkV k z l) args Φ0 pv b val) :
  D2s P (lkV k z ((a,v)::l)) args Φ0 pv (bif decide (k=a) then c else b) val:=by
 grind[lkV,A4b]
theorem D2s.nil (h:A4b k ([]:List (Int×Value))=true):D2s P z args Φ0 pv R val:=by cases h
theorem oiu {p:Prop} (h:p:=by assumption):p:=h
theorem F3r {c:β→List Value} {n:Nat}:V5 Φ (D8 c (List.replicate n (⟨none,0,0⟩:Slc)) (List.replicate n ([]:List β))):=fun p d i r xs a b=>by
 rw [List.getElem?_replicate] at a b
 split at a
 ·cases a;rw [if_pos oiu] at b;cases b;exact Z
 ·cases a
theorem B4.rep (n:Nat):B4 (List.replicate n (⟨Option.none,0,0⟩:Slc)) (List.replicate n ([]:List β)):=⟨by simp,fun i r xs a b=>by
 grind⟩
end
end
section
variable {β:Type} {enc enc2:β→Value} {gf:FuncId} {xs:List β} {Φ0:List Pers}
def D0e (P:Program) (l:Nat) (v a:Value) (L:Own) (Φ:List Pers) (post:Bool→Own→List Pers→Prop):Prop :=
 ∀ (w:World) (h:Hp),(∀ q ∈ Φ,q.p h)→h.sub w→A5x L h w →
  YieldAt Fence.wide 0 P l #[v,a] w fun e w'=>∃ b L' Φ',e=.returned (.bool b)∧post b L' Φ'∧cG (cx w h (L.map Prod.fst)) L' Φ' w'
def D7b (P:Program) (gf:FuncId) (a:List Value) (Φ0:List Pers) {β:Type} (enc enc2:β→Value) (xs:List β):Prop :=
 HasBody P gf∧∀ (l:Nat) (w:World) (h:Hp) (I:List β→Own→List Pers→Prop) (Ix:Own→List Pers→Prop) (L:Own) (Φ:List Pers),I xs L Φ→(∀ q ∈ Φ0,q.p h)→(∀ q ∈ Φ,q.p h)→h.sub w→A5x L h w →
  (∀ x rest L Φ,I (x::rest) L Φ→D0e P l (enc x) (enc2 x) L Φ fun b L' Φ'=>if b then I rest L' Φ' else Ix L' Φ') →
  Calls P gf (#[.func (.yield l) #[] #[]]++a.toArray) w fun e w'=>(∃ v,e=.returned v)∧∃ L' Φ',(I [] L' Φ'∨Ix L' Φ')∧cG (cx w h (L.map Prod.fst)) L' Φ' w'
section
variable {P:Program} {n:Nat} {X:Cx} {K:Act→World→Prop} {Q:Exit→Act→World→Prop} {E E':cA} {L L':Own} {Φ Φ':List Pers}
theorem E8k {a:Func} {c:Code} {d:List Value}
  (i : P.funcs[gf]? = some a) (hb : a.body = some c) (e : (a.name == "runtime.NumGoroutine") = false) (j : a.ntmps = n) (f : Nat.ble (d.length + 1) n = true) (E0 : Nat → cA) (hE : ∀ l, R0 ((List.range (d.length + 1)).zip (.func (.yield l) #[] #[] :: d)) (E0 l))
  (h:∀ (X:Cx) (l:Nat) (I:List β→Own→List Pers→Prop) (Ix:Own→List Pers→Prop) (L:Own) (Φ:List Pers),X.M=L.map Prod.fst→X.rho=none→X.D=[]→I xs L Φ →
   (∀ x rest L Φ,I (x::rest) L Φ→D0e P l (enc x) (enc2 x) L Φ fun b L' Φ'=>if b then I rest L' Φ' else Ix L' Φ')→J P n X c (E1b P X a fun L' Φ'=>I [] L' Φ'∨Ix L' Φ') (E0 l) (L++[]) (Φ0++Φ)):D7b P gf d Φ0 enc enc2 xs :=
 have g:=aa (γ:=Unit) (ok:=fun _ _=>True) (vs:=fun x _=>[enc x,enc2 x]) (fx:=fun _ _=>[]) [] i hb e j f E0 hE fun X l I Ix L Φ h1 h2 h3 h4 hy=>h X l I Ix L Φ h1 h2 h3 h4 fun x rest L Φ hI=>hy x rest L Φ () trivial hI
 ⟨g.1,fun l w p I Ix L Φ h1 h2 h3 h4 h5 hy=>g.2 l w p I Ix L Φ h1 h2 h3 h4 h5 fun x rest L Φ _ _ hI=>hy x rest L Φ hI⟩
theorem E9o {o:Oper} {c:Call} {z:Operand} {l:Nat} {v y:Value} {L0 L2:Own} {post:Bool→Own→List Pers→Prop} (hy:D0e P l v y L0 Φ0 post)
  (u:o.op=.call c) (r:c.callee=.value z) (hf:ev E z=some (.func (.yield l) #[] #[])) (j:c.args.toList.mapM (ev E)=some [v,y]) (hΦ:A7 Φ Φ0) (hL:L.Perm (L0++L2)) :
  Tri P n X o E L Φ {σ:Bool×Own×List Pers // post σ.1 σ.2.1 σ.2.2} (fun σ=>.bool σ.1.1) (fun σ=>σ.1.2.1++L2) (fun σ=>σ.1.2.2++Φ):=by
 intro a w K Q t hk
 obtain ⟨p,q⟩:=t.world
 have m:A5x (L0++L2) p w:=⟨fun e he=>q.own.1 e (hL.symm.subset he),(hL.map Prod.fst).nodup_iff.1 q.own.2⟩
 obtain ⟨x,i,d,g,s,f⟩:=hy w p (hΦ p q.facts) q.sub (m.sub (List.sublist_append_left _ _))
 have hr:(execOp a.eval o).run P w=.ok (.round l x i d g) w:=by
  simp [execOp,u,resolve,r,D5 t.has hf,Deferred.ofValue,B5l t.has j,invoke,s]
 refine ⟨fun _ _=>trivial,?_⟩
 rw [Oper.semAt_eq _ _ _ (fun c r=>by grind),hr]
 refine ⟨B0x,?_⟩
 have hR:RoundIn (FW X.rho) 0 P l x i d g w _:=f
 refine hR.mono fun e w' hx=>?_
 obtain ⟨b,L',Φ',rfl,k,hw⟩:=hx
 exact hk ⟨(b,L',Φ'),k⟩ w' (cG.call q hL hw)
theorem F5h {g:Operand} {p p2:Nat} {ps:Array Tmp} {a f:Code} {v:List Value}
  (o:X.rho=none) (z:ev E g=some (.func (.func gf) #[] v.toArray)) (j:D7b P gf v Φ0 enc enc2 xs) (hΦ0:A7 Φ Φ0) (q:ps=#[p,p2]) (r:A1m n (some p)=true) (k:A1m n (some p2)=true)
  {σ:Type} (I:List β→σ→Prop) (Jx:Code→σ→Prop) (Lk:σ→Own) (Φk:σ→List Pers) (m:σ) (y:I xs m) (hL:(Lk m).Sublist L) (hΦ:A7 Φ (Φk m))
  (e:∀ x rest s,I (x::rest) s→∀ (Y Y':Cx) (K:Act→World→Prop),Y.rho.isSome=true →
   (∀ E L Φ,J P n Y' f (RP Y' I Jx Lk Φk rest) E L Φ→JQ n Y K E L Φ)→J P n Y a (Exit.then K (fun _ _ _=>False)) (cA.put (cA.put E (some p) (enc x)) (some p2) (enc2 x)) (Lk s) (Φk s))
  (b:∀ d s,d ∉ X.D.map Prod.fst→I [] s→JQ n (X.wd ((d,.deferred (some []))::X.D)) (Q .normal) E (Lk s) (Φk s))
  (i:∀ d c s,d ∉ X.D.map Prod.fst→Jx c s→J P n (X.wd ((d,.deferred (some []))::X.D)) c Q E (Lk s) (Φk s)):J P n X (.rangeFunc g ps a f) Q E L Φ :=
 ab (γ:=Unit) (ok:=fun _ _=>True) (vs:=fun x _=>[enc x,enc2 x]) (fx:=fun _ _=>[]) o z (L1:=[]) ⟨j.1,fun l w h I Ix L Φ h1 h2 h3 h4 h5 hy=>j.2 l w h I Ix L Φ h1 h2 h3 h4 h5 fun x rest L Φ hI=>hy x rest L Φ () trivial hI⟩ hΦ0 [p,p2] q (fun t u=>by simp only [A1m,Nat.blt_eq] at r k;grind) (fun _ _=>Z)
  I Jx Lk Φk m y (by grind) hΦ (fun x rest s _ _=>e x rest s) b i
end
end
end Go.Fen
namespace Go.Fen
open Go Go.RowKit Go.ChangeShapes
section
variable {α H:Type} {D:{H:Type}→DataW H→α→Prop} {T:TypeId} {a:Addr} {b:Nat} {c:α→List Value} {cs:List Value} {ds:List (DataW Unit)} {e:TypeId} {enc:TypeId×Value→H} {k n:Nat} {p:Hp→α→Prop} {sp:Nat→Bool} {sz:TypeId} {tab:List α} {w:World} {x:DataW H×List MemPlace}
section
variable {P:Program}
def Cod (P:Program) (T:TypeId) (α:Type) (c:α→List Value) (D:{H:Type}→DataW H→α→Prop) (p:Hp→α→Prop):Prop :=
 ∀ {H:Type} {enc:TypeId×Value→H} {w:World} {e:Nat} {g:Nat→Bool} {f:Bool} {d:Nat} {cs:List Value} {x:DataW H×List MemPlace},
  DataW.trod enc P w e g f d T cs=some x→∃ a:α,cs=c a∧D x.1 a∧p (fun b=>w.heap[b]?) a
def B7h {H:Type} (d:DataW H) (n:Int):Prop:=d=.lit (.int .i64 n)
def G0i {H:Type} (d:DataW H) (b:Bool):Prop:=d=.lit (.bool b)
def G6g {H:Type} (d:DataW H) (s:List UInt8):Prop:=d=.lit (.string s)
def A9q (n:Int):Prop:=-9223372036854775808≤n∧n≤9223372036854775807
theorem G5d {k:IntKind} {n:Int} (h:(Lit.int k n).wf=true):k.min≤n∧n≤k.max:=by simp_all[Lit.wf]
theorem A2t (b:P.underlying T=some (.int .i64)):Cod P T Int H0 B7h (fun _=>A9q):=fun h=>by
 obtain ⟨n,rfl,rfl,a⟩:=DataW.trod_int b h
 exact ⟨n,rfl,rfl,G5d a⟩
theorem E5u (a:P.underlying T=some .bool):Cod P T Bool B1w G0i (fun _ _=>True):=fun h=>by
 obtain ⟨b,rfl,rfl⟩:=DataW.trod_bool a h
 exact ⟨b,rfl,rfl,trivial⟩
theorem F7w (a:P.underlying T=some .string):Cod P T (List UInt8) G3i G6g (fun _ s=>s.length≤9223372036854775807):=fun h=>by
 obtain ⟨s,rfl,rfl,b⟩:=DataW.trod_string a h
 refine ⟨s.data.toList,by rfl,rfl,?_⟩
 simp_all[maxLen]
theorem C3e {β:Type} {f:α→Option β} {l:List α} {r:List β} (h:l.mapM f=some r) (i:Nat) (a:α) (c:l[i]?=some a):∃ b,r[i]?=some b∧f a=some b:=Lib.mapM_at h i a c
theorem J6 {o m:Nat} {u rest:List Value} (h:(cs.drop o).take n=u) (hr:cs.drop m=rest) (a:o+n=m):cs.drop o=u++rest:=by grind[List.drop_drop,List.take_append_drop]
theorem A6g {e:Nat→Bool} {c:Bool} {a:Nat} {d:Array Field}
  (l:P.underlying T=some (.struct d)) (h:DataW.trod enc P w b e c a T cs=some x) :
  cs.length=P.cellsOf T∧∃ (n:Nat) (ys:List (DataW H×List MemPlace)),a=n+1∧x.1=.agg (ys.map (·.1))∧ys.length=d.size∧∀ (i:Nat) f,d[i]?=some f→∃ y,ys[i]?=some y∧DataW.trod enc P w b e c n f.type ((cs.drop f.offset).take (P.cellsOf f.type))=some y:=by
 cases a with
 | zero=>simp_all[DataW.trod]
 | succ n =>
  unfold DataW.trod at h
  simp only [l] at h
  split at h
  ·rename_i k
   obtain ⟨ys,g,rfl⟩:=Option.map_eq_some_iff.1 h
   refine ⟨k,n,ys,rfl,rfl,by simpa using Lib.mapM_length g,fun i f j=>?_⟩
   exact C3e g i f (by grind)
  ·cases h
theorem D5s {d:Nat→Bool} {c:Bool} {a:Nat}
  (j:P.underlying T=some (.array k e)) (h:DataW.trod enc P w b d c a T cs=some x) :
  cs.length=P.cellsOf T∧∃ (n:Nat) (ys:List (DataW H×List MemPlace)),a=n+1∧x.1=.agg (ys.map (·.1))∧ys.length=k∧∀ (i:Nat),i<k→∃ y,ys[i]?=some y∧DataW.trod enc P w b d c n e ((cs.drop (i * P.cellsOf e)).take (P.cellsOf e))=some y:=by
 cases a with
 | zero=>simp_all[DataW.trod]
 | succ n =>
  unfold DataW.trod at h
  simp only [j] at h
  split at h
  ·rename_i g
   obtain ⟨ys,f,rfl⟩:=Option.map_eq_some_iff.1 h
   refine ⟨g,n,ys,rfl,rfl,by simpa using Lib.mapM_length f,fun i l=>?_⟩
   exact C3e f i i (by simp [l])
  ·cases h
abbrev C5p (w:World):Hp:=fun b=>w.heap[b]?
theorem F2c {c:Nat} {us:List Value} (h:w.cells? c a n=some us):us.length=n∧∀ j,j<n→w.cell? (a.add j)=us[j]?:=by
 unfold World.cells? at h
 split at h
 ·refine ⟨by simpa using Lib.mapM_length h,fun j d=>?_⟩
  obtain ⟨b,hb,e⟩:=C3e h j j (by simp [d])
  rw [e,hb]
 ·cases h
theorem E0w {v:Value} (h:w.cell? a=some v):a.spot=none∧∃ c T b,w.heap[a.block]?=some (.cells c T b)∧c[a.off]?=some v:=by
 unfold World.cell? at h
 cases hs:a.spot<;>grind
theorem D9v (a:Addr) (n:Nat):(a.add n).block=a.block:=by grind[Addr.add]
theorem F7u (a:Addr) (n:Nat):(a.add n).off=a.off+n:=by grind[Addr.add]
theorem F6t (a:Addr) (n m:Nat):(a.add n).add m=a.add (n+m):=by grind[Addr.add]
theorem E3i (hc:Cod P e α c D p) (ak:∀ x,(c x).length=sz) (a6:P.cellsOf e=sz) (h0:0<sz) (ht:P.underlying T=some (.slice e)) {o:Bool} {r:Nat} (h:DataW.trod enc P w b sp o r T cs=some x) :
  ∃ (q:Option Addr) (k:Nat) (xs:List α),cs=[.slice q xs.length k]∧xs.length≤k∧k≤9223372036854775807∧(∀ a ∈ xs,p (C5p w) a)∧(sl c q xs).p (C5p w) ∧
   ((q=none∧xs=[]∧k=0)∨∃ (es rest:List (DataW H)),x.1=.slice es rest∧es.length=xs.length∧∀ (i:Nat) (d:DataW H) (a:α),es[i]?=some d→xs[i]?=some a→D d a):=by
 cases r with
 | zero=>simp [DataW.trod] at h
 | succ n =>
  unfold DataW.trod at h
  simp only [ht] at h
  split at h
  all_goals try (simp_all;done)
  ·rename_i g
   simp only [Option.some.injEq,TypeDesc.slice.injEq] at g
   exact ⟨none,0,[],rfl,Nat.le_refl _,Nat.zero_le _,by simp,rfl,.inl ⟨rfl,rfl,rfl⟩⟩
  ·rename_i e' a len cap g
   simp only [Option.some.injEq,TypeDesc.slice.injEq] at g
   subst g
   split at h
   ·rename_i hb
    obtain ⟨bh,b0,b3⟩:=hb
    obtain ⟨es,hm,h⟩:=Option.bind_eq_some_iff.1 h
    obtain ⟨rest,_,rfl⟩:=Option.map_eq_some_iff.1 h
    have a5:es.length=len:=by simpa using Lib.mapM_length hm
    have aq:∀ i,i<len→∃ y,es[i]?=some y∧∃ us,w.cells? b (a.add (i * P.cellsOf e)) (P.cellsOf e)=some us∧DataW.trod enc P w b sp o n e us=some y:=fun i hi=>by
     obtain ⟨y,hy,ax⟩:=C3e hm i i (by simp [hi])
     obtain ⟨us,hu,z⟩:=Option.bind_eq_some_iff.1 ax
     exact ⟨y,hy,us,hu,z⟩
    have az:∀ m,m≤len→∃ xs:List α,xs.length=m∧(∀ a ∈ xs,p (C5p w) a)∧∀ i,i<m→∃ y v,es[i]?=some y∧xs[i]?=some v∧D y.1 v∧w.cells? b (a.add (i * P.cellsOf e)) (P.cellsOf e)=some (c v):=by
     intro m
     induction m with
     | zero=>exact fun _=>⟨[],rfl,by simp,fun i hi=>by omega⟩
     | succ m ih =>
      intro bc
      obtain ⟨xs,l,t,hx⟩:=ih opx
      obtain ⟨y,hy,us,hu,z⟩:=aq m opx
      obtain ⟨v,rfl,hd,hp⟩:=hc z
      refine ⟨xs++[v],by simp [l],fun a ha=>?_,fun i hi=>?_⟩
      ·rcases List.mem_append.1 ha with ha | ha
       ·exact t a ha
       ·rw [List.mem_singleton.1 ha];exact hp
      ·by_cases him:i<m
       ·obtain ⟨y',v',h1,h2,h3,h4⟩:=hx i him
        exact ⟨y',v',h1,by rw [List.getElem?_append_left opx];exact h2,h3,h4⟩
       ·obtain rfl:i=m:=by omega
        exact ⟨y,v,hy,by rw [List.getElem?_append_right opx,l];simp,hd,hu⟩
    obtain ⟨xs,l,t,hx⟩:=az len (Nat.le_refl _)
    subst l
    refine ⟨some a,cap,xs,rfl,b0,by simpa [maxLen] using b3,t,?_,.inr ⟨es.map (·.1),rest.map (·.1),rfl,by simpa using a5,fun i d v hd hv=>?_⟩⟩
    ·show B0p (C5p w) a (xs.flatMap c)
     cases hxs:xs with
     | nil=>exact .inl Z
     | cons x0 xr =>
      rw [← hxs]
      have s:0<xs.length:=by rw [hxs];simp
      have f:∀ i j,i<xs.length→j<sz→w.cell? (a.add (i * sz+j))=(xs.flatMap c)[i * sz+j]?:=by
       intro i j hi hj
       obtain ⟨y,v,_,h2,_,h4⟩:=hx i hi
       have:=(F2c h4).2 j (by rw [a6];exact hj)
       rw [a6] at this
       rw [D0l ak v hi hj,show xs.getD i v=v by rw [List.getD_eq_getElem?_getD,h2];rfl,← this,F6t]
      have ah:(xs.flatMap c).length=xs.length * sz:=G8 ak xs
      have ac:=f 0 0 s h0
      obtain ⟨v0,hv0⟩:∃ v0,(xs.flatMap c)[0 * sz+0]?=some v0:=by
       rw [List.getElem?_eq_getElem (show 0 * sz+0<(xs.flatMap c).length by rw [ah,Nat.zero_mul];exact Nat.mul_pos s h0)];exact ⟨_,rfl⟩
      rw [hv0] at ac
      obtain ⟨hs,cc,TT,fr,hh,_⟩:=E0w ac
      have a4:w.heap[a.block]?=some (.cells cc TT fr):=by simpa [D9v] using hh
      refine .inr ⟨by simpa [Addr.add] using hs,cc,TT,fr,a4,fun j v hj=>?_⟩
      have a3:=(List.getElem?_eq_some_iff.1 hj).1
      rw [ah] at a3
      have e1:j / sz * sz+j % sz=j:=by rw [Nat.mul_comm];exact Nat.div_add_mod j sz
      have h1:=f (j / sz) (j % sz) (by rw [Nat.div_lt_iff_lt_mul h0];exact a3) (Nat.mod_lt _ h0)
      rw [e1,hj] at h1
      obtain ⟨_,a7,TT',b1,b2,aw⟩:=E0w h1
      have u:w.heap[a.block]?=some (.cells a7 TT' b1):=by simpa [D9v] using b2
      have:a7=cc:=by
       rw [a4] at u;simp at u;exact u.1.symm
      rw [← this];simpa [F7u] using aw
    ·obtain ⟨y,v',h1,h2,h3,_⟩:=hx i (List.getElem?_eq_some_iff.1 hv).1
     rw [hv] at h2
     obtain rfl:v=v':=Option.some.inj h2
     rw [List.getElem?_map,h1] at hd
     obtain rfl:y.1=d:=Option.some.inj hd
     exact h3
   ·cases h
def G0m {α:Type} (c:α→List Value) (p:Hp→α→Prop) (h:Hp) (r:Slc):Prop:=∃ xs:List α,r.n=xs.length∧r.n≤r.k∧xs.length≤9223372036854775807∧(sl c r.q xs).p h∧∀ a ∈ xs,p h a
theorem F8y (l:Cod P e α c D p) (a:∀ x,(c x).length=sz) (b:P.cellsOf e=sz) (d:0<sz) (f:P.underlying T=some (.slice e)) :
  Cod P T Slc F0 (fun _ _=>True) (G0m c p):=fun h=>by
 obtain ⟨q,k,xs,rfl,j,m,g,i,_⟩:=E3i l a b d f h
 exact ⟨⟨q,xs.length,k⟩,rfl,trivial,xs,rfl,j,by omega,i,g⟩
theorem F1u {h:Hp}:∀ (rs:List Slc),(∀ r ∈ rs,G0m c p h r)→∃ xss:List (List α),B4 rs xss∧(D8 c rs xss).p h∧∀ xs ∈ xss,∀ a ∈ xs,p h a
 | [],_=>⟨[],.none,fun i r xs h=>by simp at h,by simp⟩
 | r::rs,hr=>by
  obtain ⟨xs,q,k,l,o,s⟩:=hr r jU
  obtain ⟨xss,j,m,t⟩:=F1u rs fun e n=>hr e (List.mem_cons_of_mem _ n)
  refine ⟨xs::xss,.cons ⟨q,k,l⟩ j,fun i e d b g=>?_,fun ys f=>?_⟩
  ·cases i with
   | zero=>simp at b g;subst b g;exact o
   | succ i=>exact m i e d (by simpa using b) (by simpa using g)
  ·rcases List.mem_cons.1 f with rfl | f
   ·exact s
   ·exact t ys f
theorem F2d {S:TypeId} (z:Cod P e α c D p) (l:∀ x,(c x).length=sz) (g:P.cellsOf e=sz) (o:0<sz) (y:P.underlying S=some (.slice e)) (j:P.cellsOf S=1) (r:P.underlying T=some (.slice S)) {m:Nat→Bool} {d:Bool} {f:Nat} (h:DataW.trod enc P w b m d f T cs=some x) :
  ∃ (q:Option Addr) (k:Nat) (rs:List Slc) (xss:List (List α)),cs=[.slice q xss.length k]∧xss.length≤k∧k≤9223372036854775807∧B4 rs xss∧(sl F0 q rs).p (C5p w)∧(D8 c rs xss).p (C5p w)∧∀ xs ∈ xss,∀ a ∈ xs,p (C5p w) a:=by
 obtain ⟨q,k,rs,rfl,u,n,v,t,_⟩:=E3i (c:=F0) (D:=fun _ _=>True) (p:=G0m c p) (F8y z l g o y) (sz:=1) jJ j Nat.one_pos r h
 obtain ⟨xss,i,s,g3⟩:=F1u rs v
 exact ⟨q,k,rs,xss,by rw [i.1],by rw [← i.1];exact u,n,i,t,s,g3⟩
theorem E7a {T e sz:Nat} (hc:Cod P e α c D p) (u:∀ x,(c x).length=sz) (a3:P.cellsOf e=sz) (ht:P.underlying T=some (.array k e)) (hT:P.cellsOf T=k * sz)
  (v:DataW Unit→Option α) (s:∀ d a,D d a→v d=some a) (f:ds.mapM v=some tab)
  {enc:TypeId×Value→Unit} {q:Nat} {r:Bool} {t:Nat} {ps:List MemPlace} (h:DataW.trod enc P w q sp r t T cs=some (.agg ds,ps)):cs=tab.flatMap c:=by
 obtain ⟨hl,n,ys,rfl,hx,a0,hy⟩:=D5s ht h
 have m:ds=ys.map (·.1):=by grind
 have a4:ds.length=k:=by grind
 have z:tab.length=k:=by grind[Lib.mapM_length]
 have a2:∀ (i:Nat),i<k→∃ a,tab[i]?=some a∧(cs.drop (i * sz)).take sz=c a:=by
  intro i hi
  obtain ⟨y,h1,l⟩:=hy i hi
  rw [a3] at l
  obtain ⟨a,h3,h4,_⟩:=hc l
  obtain ⟨b,h5,h6⟩:=C3e f i y.1 (by grind)
  grind
 rw [hT,← z] at hl
 apply List.ext_getElem?
 intro j
 by_cases hj:j<tab.length * sz
 ·have g:0<sz:=by
   grind
  have hk:j / sz<tab.length:=by simp_all[Nat.div_lt_iff_lt_mul]
  have hm:j % sz<sz:=Nat.mod_lt _ g
  have e1:j / sz * sz+j % sz=j:=by simp[Nat.mul_comm,Nat.div_add_mod]
  obtain ⟨a,o,h1⟩:=a2 (j / sz) opx
  have l:=D0l u a hk hm
  grind
 ·rw [List.getElem?_eq_none opx,List.getElem?_eq_none (by grind[G8])]
theorem D0p {i:List (String×DataW Unit)} {b:String} {g T:Nat} (m:(b,.agg ds) ∈ i) (hg:P.globalNamed b=some g) (hT:(P.globals[g]?).map (·.type)=some T) {e sz:Nat} (hc:Cod P e α c D p) (a4:∀ x,(c x).length=sz) (a0:P.cellsOf e=sz) (ht:P.underlying T=some (.array k e)) (a3:P.cellsOf T=k * sz)
  (o:DataW Unit→Option α) (z:∀ d a,D d a→o d=some a) (u:ds.mapM o=some tab) (h:laidMet P i w):(sl c (some ⟨g,0,none⟩) tab).p (C5p w):=by
 obtain ⟨ps,h,_⟩:=h
 have:∀ (l:List (String×DataW Unit)) (ps:List MemPlace),DataW.LaidVars P w l ps→(b,.agg ds) ∈ l→∃ cs f q,w.var? P b=some cs∧DataW.trod (fun _=>()) P w 0 (fun _=>true) false f T cs.toList=some (.agg ds,q):=by
  intro l
  induction l with
  | nil=>simp
  | cons y r ih =>
   intro ps h m
   obtain ⟨n,d⟩:=y
   obtain ⟨g',t,cs,f,p',q,h1,h2,h3,h4,h5,_⟩:=h
   grind
 obtain ⟨cs,f,q,s,a1⟩:=this i ps h m
 have a2:=E7a hc a4 a0 ht a3 o z u a1
 unfold World.var? at s
 rw [hg] at s
 simp only [Option.bind_some] at s
 split at s
 ·rename_i cs' TT fr hh
  obtain rfl:cs'=cs:=Option.some.inj s
  refine .inr ⟨rfl,cs',TT,fr,hh,fun j v hj=>?_⟩
  grind
 ·cases s
theorem F3b {f:Func} {s:ChangeSpec} (hl:laidOutB P=true) (u:(f.params.toList.all fun t=>P.readableRec t&&decide (t<P.types.size))=true) (l:f.resultTypes=#[4]) (hb:P.underlying 4=some .bool) (hv:s.vars=[])
  {W W':World} {args:Array Value} {ds m:List (DataW H)} {c:List MemPlace} (hW:DataW.Whole enc P f.params.toList s.vars false W args.toList ds m c) (hk:Below W.heap.size W W')
  (y:s.fn H ds={results:=[.lit (.bool true)],args:=ds}):s.post enc P f false true false false W args (.bool true) W':=by
 have i:=hW
 obtain ⟨p,q,hA,z,rfl,ac,a9⟩:=hW
 rw [hv] at z
 have w:m=[]∧q=[]:=by
  cases m with
  | nil=>exact ⟨rfl,z⟩
  | cons g m=>exact z.elim
 obtain ⟨rfl,rfl⟩:=w
 simp only [List.append_nil] at i
 have r:∀ x ∈ p,x.block<W.heap.size:=fun x n=>i.lt x n
 have a:s.fn H (ds++[])={results:=[.lit (.bool true)],args:=ds}:=by grind
 have j:∀ (k:List TypeId) (vs:List Value) (ds:List (DataW H)) (ps:List MemPlace),(k.all fun t=>P.readableRec t&&decide (t<P.types.size))=true→DataW.TrodAll enc P W 0 (fun _=>true) true k vs ds ps→(∀ x ∈ ps,x.block<W.heap.size)→DataW.TrodAll enc P W' 0 (fun b=>decide (b<W.heap.size)) true k vs ds ps:=by
  intro k
  induction k with
  | nil=>intro vs ds ps _ h _;cases vs<;>cases ds<;>exact h
  | cons t k ih =>
   intro vs ds ps o h n
   cases vs with
   | nil=>cases ds<;>exact h.elim
   | cons v vs =>
    cases ds with
    | nil=>exact h.elim
    | cons d ds =>
     simp only [List.all_cons,Bool.and_eq_true,decide_eq_true_eq] at o
     obtain ⟨p1,q1,h1,h2,rfl⟩:=h
     exact ⟨p1,q1,Below.trod hl o.1.1 o.1.2 h1 hk (fun x e=>n x (List.mem_append_left _ e)),ih vs ds q1 (by simpa using o.2) h2 (fun x e=>n x (List.mem_append_right _ e)),rfl⟩
 refine ⟨ds,[],p,[],p,[],i,?_,?_,?_,hk.frame _,fun h=>by cases h⟩
 ·rw [a,l]
  refine ⟨[],[],⟨1,?_⟩,rfl,rfl⟩
  simp [DataW.trod,hb,Value.cells,Value.resultList]
 ·rw [a];exact j _ _ _ _ u hA r
 ·rw [a,hv];rfl
end
end
end Go.Fen
namespace Go.Fen
open Go Go.RowKit
section
variable {C:Int→List Value→Value→Prop} {c:Value} {i:Nat} {k:Int} {l:List (Int×Value)} {m:Nat} {o:Oper} {ops:Array Oper} {r v:Value} {α:Type}
def D7k (P:Program) (h:Hp) (b:Value) (args:List Value) (r:Value):Prop :=
 ∃ (k:FuncId) (first cap:Array Value),b=.func (.func k) first cap∧HasBody P k∧∀ (w:World) (a:Hp),h.le a→a.sub w→A5x [] a w →
  Calls P k (first++args.toArray++cap) w fun e w'=>∃ _:Unit,e=.returned r∧cG (cx w a []) [] [] w'
theorem D7k.mono {P:Program} {h b:Hp} {args:List Value} (f:h.le b) (j:D7k P h c args r):D7k P b c args r:=by
 obtain ⟨k,first,cap,e,hb,H⟩:=j
 exact ⟨k,first,cap,e,hb,fun w i a g d=>H w i (Hp.le_trans f a) g d⟩
def P6 (P:Program) (d:Value) (C:List Value→Value→Prop):Pers:=⟨fun h=>∀ args r,C args r→D7k P h d args r,fun c a args r b=>(a args r b).mono c⟩
def D3a (P:Program) (l:List (Int×Value)) (C:Int→List Value→Value→Prop):Pers:=⟨fun h=>∀ k,A4b k l=true→∀ args r,C k args r→D7k P h (lkV k .nilFunc l) args r,fun d a k b args r c=>(a k b args r c).mono d⟩
theorem E6i (b k:Int) (v:α):∀ (l:List (Int×α)),A4b b (l++[(k,v)])=(A4b b l||decide (b=k))
 | []=>by simp [A4b]
 | (a,u)::l=>by simp only [List.cons_append,A4b,E6i b k v l];grind
theorem F1c (b k:Int) (z v:Value):∀ (l:List (Int×Value)),lkV b z (l++[(k,v)])=if A4b b l=true then lkV b z l else bif decide (b=k) then v else z
 | []=>by rfl
 | (a,u)::l=>by
  simp only [List.cons_append,lkV,A4b,F1c b k z v l]
  grind
theorem D0v (k:Int):∀ (l:List (Int×α)),A4b k l=(l.map Prod.fst).contains k
 | []=>rfl
 | (a,v)::l=>by
  simp only [A4b,List.map_cons,List.contains_cons,D0v k l]
  rfl
theorem D6c (k:Int) (v:Value):∀ (l:List (Int×Value)) (j:Nat),C1 (l++[(k,v)]) j=C1 l j++[⟨.int .i64 k,v,j+l.length⟩]
 | [],j=>rfl
 | (a,u)::l,j=>by simp only [List.cons_append,C1,D6c k v l,List.length_cons];grind
theorem E6q:∀ (l:List (Int×Value)) (j i:Nat),k ∉ l.map Prod.fst→Instr.findNow (.int .i64) (.int .i64 k) (C1 l j) i=some none
 | [],j,i,h=>rfl
 | (a,v)::l,j,i,h=>by
  simp only [List.map_cons,List.mem_cons,not_or] at h
  have hb:(k == a)=false:=by grind
  simp only [C1,Instr.findNow,Instr.sameNow,if_true,hb]
  exact E6q l (j+1) (i+1) h.2
section
variable {P:Program} {n:Nat} {X:Cx} {E:cA} {L:Own} {Φ Φ' Φ0:List Pers}
theorem F9q {c:Func} {r s t q:ResultVar} {u x y:Value} (d:c.results=#[r,s,t,q]) (h:C9d P n X r E L Φ v) (k:C9d P n X s E L Φ u) (l:C9d P n X t E L Φ x) (m:C9d P n X q E L Φ y):Res P n X c E L Φ (.tuple #[v,u,x,y]):=fun a w b=>by
 simp [B8k,d,h a w b,k a w b,l a w b,m a w b]
theorem A2j {C:List Value→Value→Prop} (h:∀ args r,C args r→D7 P c args Φ0 r) (f:A7 Φ Φ0):V5 Φ (P6 P c C):=fun p d args r g=>by
 obtain ⟨k,first,cap,e,a⟩:=h args r g
 refine ⟨k,first,cap,e,a.1,fun w l b j i=>?_⟩
 have:=a.2 w l (fun q m=>q.mono b (f p d q m)) j i
 rw [Array.toArray_toList] at this
 grind
theorem E8l {a:Value} {C C':List Value→Value→Prop} (h:V5 Φ (P6 P a C)) (d:∀ args r,C' args r→C args r):V5 Φ (P6 P a C'):=fun p b args r c=>h p b args r (d args r c)
theorem C6m {b:Value} {C:List Value→Value→Prop} (c:∀ args r,¬ C args r):V5 Φ (P6 P b C):=fun p d args r a=>absurd a (c args r)
theorem F4o:V5 Φ (D3a P [] C):=fun p b k a=>by cases a
theorem F6k (g:V5 Φ (D3a P l C)) (f:V5 Φ (P6 P v (C k))):V5 Φ (D3a P (l++[(k,v)]) C):=fun p b a c args r d=>by
 rw [F1c]
 rw [E6i] at c
 by_cases h:A4b a l=true
 ·rw [if_pos h];exact g p b a h args r d
 ·rw [if_neg h]
  have e:a=k:=by grind
  subst e
  rw [jQ rfl,cond_true]
  exact f p b args r d
theorem F9 {T t e:Nat} {m g vv:Operand} {b:Nat} {ks:List Int} (y:MapTy P T t e (.int .i64)) (ho:o.op=.insert T m g vv∨o.op=.mapUpdate T m g vv) (hm:ev E m=some (.map (some b))) (s:ev E g=some (.int .i64 k)) (hv:ev E vv=some v)
  (i:Nat) (hi:L[i]?=some (b,.map (C1 l 0).toArray l.length)) (c:l.map Prod.fst=ks) (hn:k ∉ ks) (z:V5 Φ (D3a P l C)) (r:V5 Φ (P6 P v (C k))) (hf:A7 Φ Φ') :
  Tri P n X o E L Φ {l':List (Int×Value) // l'.map Prod.fst=ks++[k]} (fun _=>undef) (fun x=>L.set i (b,.map (C1 x.1 0).toArray x.1.length)) (fun x=>D3a P x.1 C::Φ'):=by
 have h:=G0 (P:=P) (n:=n) (X:=X) (Φ:=Φ) (es':=(C1 (l++[(k,v)]) 0).toArray) y ho hm s hv i hi (by simp_all[E6q]) (by simp[D6c])
 intro a w K Q hs f
 refine h a w K Q hs fun u w' hw=>?_
 refine f ⟨l++[(k,v)],by grind⟩ w' ?_
 have h3:=(hw.fact (D3a P (l++[(k,v)]) C) (F6k z r)).foll (Φ':=D3a P (l++[(k,v)]) C::Φ') (fun p j q d=>by
  rcases List.mem_cons.1 d with rfl | d
  ·grind
  ·exact hf p (fun q d=>j q (List.mem_cons_of_mem _ d)) q d)
 grind
theorem F2v {c:Call} {q:Operand} {vs:List Value}
  (n:V5 Φ (D3a P l C)) (h:A4b k l=true) (g:C k vs r) (x:o.op=.call c) (hc:c.callee=.value q) (m:ev E q=some (lkV k .nilFunc l)) (b:c.args.toList.mapM (ev E)=some vs):Det P X o E L Φ r:=by
 intro a z w v
 obtain ⟨p,j⟩:=v
 obtain ⟨u,first,cap,e,hb,_⟩:=n p j.facts k h vs r g
 have d:J7 P u ((first++vs.toArray++cap).toList) [D3a P l C] r:=by
  refine ⟨hb,fun w' s t y f=>?_⟩
  obtain ⟨k2,f2,c2,i,_,H⟩:=t _ jU k h vs r g
  rw [e] at i
  cases i
  have:=H w' s (Hp.le_refl _) y f
  rw [Array.toArray_toList]
  grind
 rw [e] at m
 exact B7j d x hc m b Z (A7.con1 n A7.nil) a z w ⟨p,j⟩
end
section
variable {P:Program} {n:Nat} {X:Cx} {K:Go.Act→World→Prop} {Q:Exit→Go.Act→World→Prop} {E:cA} {L L':Go.Fen.Own} {Φ:List Pers}
theorem B2n (c:L.Perm L') (h:JI P n X ops i m K Q E L' Φ):JI P n X ops i m K Q E L Φ:=fun a w b=>h a w ⟨b.size,b.defers,b.has,b.world.perm c⟩
theorem B8g (a:L=L') (h:JI P n X ops i m K Q E L' Φ):JI P n X ops i m K Q E L Φ:=a▸h
theorem F4p {c:Code} (a:L=L') (h:J P n X c Q E L' Φ):J P n X c Q E L Φ:=a▸h
end
end
section
variable {ρ:Type} {A B:ρ} {α:Type} {L1:α→Own} {R:ρ} {T:Nat} {a:Func} {args:List Value} {b:A2q} {bs:List Nat} {c:Operand} {cap:Array Value} {d:List Nat} {first:Array Value} {fv:Operand} {g:Bool} {i:Nat} {k:FuncId} {m:Nat} {o:Oper} {ops:Array Oper} {p q:Prop} {t:Nat} {v:Value} {val:α→Value} {vs:List Value} {x y:Code} {Φ0:List Pers} {Φ1:α→List Pers} {Φs:List Pers}
def F8a (P:Program) (T:Nat):Option (Nat×Bool) :=
 match P.info? T,P.underlying T with
 | some i,some d=>some (i.size,TypeDesc.row d)
 | _,_=>none
theorem F1b {P:Program} {sz:Nat} {agg:Bool} (h:F8a P T=some (sz,agg)):Ty P T sz agg:=⟨by
 unfold F8a at h
 unfold TyB
 grind⟩
def ldV (sz:Nat) (agg:Bool) (cs:List Value) (off:Nat):Option Value :=
 match agg with
 | true=>match Nat.beq ((cs.drop off).take sz).length sz with
  | true=>some (.agg ((cs.drop off).take sz).toArray)
  | false=>none
 | false=>match Nat.beq sz 1 with
  | true=>cs[off]?
  | false=>none
def G5q (v:Value) (sz off:Nat) (cs:List Value):Bool:=Nat.beq v.cells.toList.length sz&&v.cells.toList.all (·.oneCell')&&Nat.ble (off+sz) cs.length
def B9t (P:Program) (E:cA) (L:Own) (a bs:List Nat):Op→Option (Value×Own×List Nat×List Nat×List (Nat×Nat))
 | .load T x=>match ev E x,a with
  | some (.pointer (some ⟨b,off,none⟩)),j::hs'=>match L[j]?,F8a P T with
   | some (b',.cells cs TT (0,0)),some (sz,agg)=>match ldV sz agg cs.toList off with
    | some v=>some (v,L,hs',bs,[(b,b')])
    | none=>none
   | _,_=>none
  | _,_=>none
 | .store T x y=>match ev E x,ev E y,a with
  | some (.pointer (some ⟨b,off,none⟩)),some v,j::hs'=>match L[j]?,F8a P T with
   | some (b',.cells cs TT (0,0)),some (sz,_)=>match G5q v sz off cs.toList with
    | true=>some (undef,L.set j (bx b' (A6k cs.toList v.cells.toList off) TT),hs',bs,[(b,b')])
    | false=>none
   | _,_=>none
  | _,_,_=>none
 | .box T x=>match ev E x,bs with
  | some v,b::bs'=>some (.pointer (some ⟨b,0,none⟩),bx b v.cells.toList T::L,a,bs',[])
  | _,_=>none
 | .alloc T=>match (P.info? T).bind (·.zero),bs with
  | some z,b::bs'=>some (.pointer (some ⟨b,0,none⟩),bx b z.cells.toList T::L,a,bs',[])
  | _,_=>none
 | .build T ps=>match B9n E ps.toList with
  | some vs=>match E9i P T vs with
   | some cs=>some (.agg cs,L,a,bs,[])
   | none=>none
  | none=>none
 | op=>match B7e P E op with
  | some v=>some (v,L,a,bs,[])
  | none=>none
def exN (P:Program) (n:Nat) (ops:Array Oper):Nat→Nat→List Nat→List Nat→cA→Own→List (Nat×Nat)→Option (cA×Own×List Nat×List (Nat×Nat))
 | 0,_,_,bs,E,L,ps=>some (E,L,bs,ps)
 | k+1,i,hs,bs,E,L,ps=>match ops[i]? with
  | none=>none
  | some o=>match B3p ops o E,A1m n o.dst with
   | some false,true=>exN P n ops k (i+1) hs bs (cA.put E o.dst undef) L ps
   | some true,true=>match B9t P E L hs bs o.op with
    | some (v,L',hs',bs',pr)=>exN P n ops k (i+1) hs' bs' (cA.put E o.dst v) L' (pr++ps)
    | none=>none
   | _,_=>none
section
variable {P:Program} {n:Nat} {X:Cx} {K:Act→World→Prop} {Q:Exit→Act→World→Prop} {E E':cA} {L L':Own} {Φ Φ':List Pers}
def Op.turns:Op→Bool
 | .box _ _=>true
 | .alloc _=>true
 | .store _ _ _=>true
 | _=>false
theorem E2q:∀ (k i:Nat) {c bs:List Nat} {E R:cA} {L L2:Own} {ps a:List (Nat×Nat)} {b:List Nat},exN P n ops k i c bs E L ps=some (R,L2,b,a)→∀ q ∈ ps,q ∈ a
 | 0,i,c,bs,E,R,L,L2,ps,a,b,h,q,hq=>by
  grind[exN]
 | k+1,i,c,bs,E,R,L,L2,ps,a,b,h,q,hq=>by
  unfold exN at h
  split at h
  ·cases h
  ·split at h
   ·exact E2q k (i+1) h q hq
   ·split at h
    ·exact E2q k (i+1) h q (List.mem_append_right _ hq)
    ·cases h
   ·cases h
theorem E0j {n i:List Nat} {m:List (Nat×Nat)} (c:Op.turns o.op=false) (h:B9t P E L n bs o.op=some (v,L',d,i,m)) (s:∀ q ∈ m,q.1=q.2) :
  i=bs∧L'=L∧(∀ e,B9t P E L n e o.op=some (v,L',d,e,m))∧J8 P X o E L Φ v:=by
 cases ho:o.op with
 | box T x=>rw [ho] at c;cases c
 | alloc T=>rw [ho] at c;cases c
 | store T x y=>rw [ho] at c;cases c
 | load T x =>
  rw [ho] at h
  simp only [B9t] at h
  split at h
  ·rename_i b off j t l
   split at h
   ·rename_i b' cs TT sz agg p r
    split at h
    ·rename_i u a
     simp only [Option.some.injEq,Prod.mk.injEq] at h
     obtain ⟨rfl,rfl,rfl,rfl,rfl⟩:=h
     obtain rfl:b=b':=s (b,b') oom
     refine ⟨rfl,rfl,fun e=>?_,?_⟩
     ·simp_all[B9t]
     ·have f:=F1b r
      have hL:L[j]?=some (bx b cs.toList TT):=by rw [p]
      unfold ldV at a
      cases agg with
      | true =>
       simp only at a
       split at a
       ·rename_i hb
        obtain rfl:=Option.some.inj a
        exact G6 f ho l j hL Z (Nat.eq_of_beq_eq_true hb)
       ·cases a
      | false =>
       simp only at a
       split at a
       ·rename_i hb
        obtain rfl:=Nat.eq_of_beq_eq_true hb
        grind[B8]
       ·cases a
    ·cases h
   ·cases h
  ·cases h
 | build T ps =>
  rw [ho] at h
  simp only [B9t] at h
  split at h
  ·rename_i vs k
   split at h
   ·rename_i cs g
    simp only [Option.some.injEq,Prod.mk.injEq] at h
    obtain ⟨rfl,rfl,rfl,rfl,rfl⟩:=h
    refine ⟨rfl,rfl,fun e=>by simp_all[B9t],?_⟩
    have:=A2h (X:=X) (L:=L) (Φ:=Φ) (cs:=cs.toList) ho k (by simpa using g)
    omega
   ·cases h
  ·cases h
 | _ =>
  all_goals
   rw [ho] at h
   simp only [B9t] at h
   split at h
   ·rename_i u a
    simp only [Option.some.injEq,Prod.mk.injEq] at h
    obtain ⟨rfl,rfl,rfl,rfl,rfl⟩:=h
    refine ⟨rfl,rfl,fun e=>by simp_all[B9t],J8.pure (by grind)⟩
   ·cases h
theorem E8f {x y:Operand} {k c:List Nat} {g:List (Nat×Nat)} (e:o.op=.store T x y) (h:B9t P E L k bs o.op=some (v,L',c,d,g)) (r:∀ q ∈ g,q.1=q.2) :
  d=bs∧(∀ f,B9t P E L k f o.op=some (v,L',c,f,g))∧Tri P n X o E L Φ Unit (fun _=>v) (fun _=>L') (fun _=>Φ):=by
 rw [e] at h
 simp only [B9t] at h
 split at h
 ·rename_i b off u j s l i
  split at h
  ·rename_i b' cs TT sz agg m p
   split at h
   ·rename_i a
    simp only [Option.some.injEq,Prod.mk.injEq] at h
    obtain ⟨rfl,rfl,rfl,rfl,rfl⟩:=h
    obtain rfl:b=b':=r (b,b') oom
    refine ⟨rfl,fun f=>?_,?_⟩
    ·simp_all[B9t]
    ·have hL:L[j]?=some (bx b cs.toList TT):=by rw [m]
     unfold G5q at a
     simp only [Bool.and_eq_true] at a
     exact O9 (F1b p) e l i j hL oom (Nat.eq_of_beq_eq_true a.1.1) a.1.2 Z a.2
   ·cases h
  ·cases h
 ·cases h
theorem B3b:∀ (k i:Nat) (d:List Nat) (c:Nat) {E:cA} {L:Own} {ps:List (Nat×Nat)},
  (∀ bs:List Nat,bs.length=c→∃ R L2 g,exN P n ops k i d bs E L ps=some (R,L2,[],g)∧(∀ q ∈ g,q.1=q.2)∧JI P n X ops (i+k) m K Q R L2 Φ)→JI P n X ops i (k+m) K Q E L Φ
 | 0,i,d,c,E,L,ps,H=>by
  obtain ⟨R,L2,g,h,p,l⟩:=H (List.replicate c 0) oom
  simp only [exN,Option.some.injEq,Prod.mk.injEq] at h
  obtain ⟨rfl,rfl,_,_⟩:=h
  rw [Nat.zero_add];exact l
 | k+1,i,d,c,E,L,ps,H=>by
  obtain ⟨R,L2,g,h,p,l⟩:=H (List.replicate c 0) oom
  have h0:=h
  unfold exN at h
  rw [Nat.add_right_comm]
  split at h
  ·cases h
  ·rename_i o ho
   have f:∀ bs,exN P n ops (k+1) i d bs E L ps=match B3p ops o E,A1m n o.dst with
     | some false,true=>exN P n ops k (i+1) d bs (cA.put E o.dst undef) L ps
     | some true,true=>match B9t P E L d bs o.op with
      | some (v,L',j,a4,pr)=>exN P n ops k (i+1) j a4 (cA.put E o.dst v) L' (pr++ps)
      | none=>none
     | _,_=>none:=fun bs=>by rw [exN];simp only [ho]
   split at h
   ·rename_i hr s
    refine F1j ho hr s (B3b (ps:=ps) k (i+1) d c fun bs hb=>?_)
    obtain ⟨R,L2,g,h,p,l⟩:=H bs hb
    rw [f,hr,s] at h
    exact ⟨R,L2,g,h,p,by rw [Nat.add_assoc,Nat.add_comm 1 k];exact l⟩
   ·rename_i hr s
    split at h
    ·rename_i v L' j a4 pr hx
     have a3:∀ q ∈ pr,q.1=q.2:=fun q a7=>p q (E2q k (i+1) h q (List.mem_append_left _ a7))
     have next:∀ bs b2,B9t P E L d bs o.op=some (v,L',j,b2,pr)→exN P n ops (k+1) i d bs E L ps=exN P n ops k (i+1) j b2 (cA.put E o.dst v) L' (pr++ps):=fun bs b2 hb=>by
      rw [f,hr,s];simp only [hb]
     cases ht:Op.turns o.op with
     | false =>
      obtain ⟨_,rfl,r,a2⟩:=E0j (X:=X) (Φ:=Φ) ht hx a3
      refine E2k ho hr s a2.det (B3b (ps:=pr++ps) k (i+1) j c fun bs hb=>?_)
      obtain ⟨R,L2,g,h,p,l⟩:=H bs hb
      rw [next bs bs (r bs)] at h
      exact ⟨R,L2,g,h,p,by rw [Nat.add_assoc,Nat.add_comm 1 k];exact l⟩
     | true =>
      cases hop:o.op with
      | store T x y =>
       obtain ⟨_,r,a5⟩:=E8f (n:=n) (X:=X) (Φ:=Φ) hop hx a3
       refine D5v ho hr s a5 fun _=>(B3b (ps:=pr++ps) k (i+1) j c fun bs hb=>?_)
       obtain ⟨R,L2,g,h,p,l⟩:=H bs hb
       rw [next bs bs (r bs)] at h
       exact ⟨R,L2,g,h,p,by rw [Nat.add_assoc,Nat.add_comm 1 k];exact l⟩
      | box T x =>
       have a:=hx
       rw [hop] at a
       simp only [B9t] at a
       split at a
       ·rename_i u b0 a8 hu t
        obtain ⟨w,rfl⟩:∃ w,c=w+1:=by
         cases c with
         | zero=>cases t
         | succ c=>exact ⟨c,rfl⟩
        refine D5v ho hr s (A2s (cs:=u.cells.toList) hop hu oom) fun b=>(B3b (ps:=ps) k (i+1) d w fun bs hb=>?_)
        ·obtain ⟨R,L2,g,h,p,l⟩:=H (b::bs) (by simp [hb])
         have e:B9t P E L d (b::bs) o.op=some (.pointer (some ⟨b,0,none⟩),bx b u.cells.toList T::L,d,bs,[]):=by rw [hop];simp only [B9t,hu]
         rw [f,hr,s] at h
         simp only [e] at h
         exact ⟨R,L2,g,h,p,by rw [Nat.add_assoc,Nat.add_comm 1 k];exact l⟩
       ·cases a
      | alloc T =>
       have a:=hx
       rw [hop] at a
       simp only [B9t] at a
       split at a
       ·rename_i z b0 a8 hz t
        obtain ⟨w,rfl⟩:∃ w,c=w+1:=by
         cases c with
         | zero=>cases t
         | succ c=>exact ⟨c,rfl⟩
        refine D5v ho hr s (A5p (cs:=z.cells.toList) ⟨by rw [hz];simp⟩ hop) fun b=>(B3b (ps:=ps) k (i+1) d w fun bs hb=>?_)
        ·obtain ⟨R,L2,g,h,p,l⟩:=H (b::bs) (by simp [hb])
         have e:B9t P E L d (b::bs) o.op=some (.pointer (some ⟨b,0,none⟩),bx b z.cells.toList T::L,d,bs,[]):=by rw [hop];simp only [B9t,hz]
         rw [f,hr,s] at h
         simp only [e] at h
         exact ⟨R,L2,g,h,p,by rw [Nat.add_assoc,Nat.add_comm 1 k];exact l⟩
       ·cases a
      | _=>all_goals (rw [hop] at ht;cases ht)
    ·cases h
   ·cases h
theorem E3n {a:cA} (E0:cA) (f:E0.lookup t=some v) (l:a.lookup t=none):∀ (k i:Nat) {j bs:List Nat} {E R:cA} {L L2:Own} {ps c:List (Nat×Nat)} {g:List Nat},
  D6z ops E0 a k i=true→exN P n ops k i j bs E L ps=some (R,L2,g,c)→E.lookup t=some v→R.lookup t=some v
 | 0,i,j,bs,E,R,L,L2,ps,c,g,_,h,he=>by
  grind[exN]
 | k+1,i,j,bs,E,R,L,L2,ps,c,g,hk,h,he=>by
  unfold exN at h
  unfold D6z at hk
  simp only [Bool.and_eq_true] at hk
  split at h
  ·cases h
  ·rename_i o m
   have b:o.dst≠some t:=by
    grind[C2f]
   have put:∀ u,(cA.put E o.dst u).lookup t=some v:=by
    grind[cA.put]
   split at h
   ·exact E3n E0 f l k (i+1) hk.2 h (put _)
   ·split at h
    ·exact E3n E0 f l k (i+1) hk.2 h (put _)
    ·cases h
   ·cases h
def exL (P:Program) (n:Nat) (ops:Array Oper) (k i:Nat) (b bs:List Nat) (E:cA) (L:Own) (a:cA):Option (cA×Own×List Nat) :=
 match D6z ops E a k i with
 | true=>match exN P n ops k i b bs E L [] with
  | some (R,L2,[],ps)=>match C5r R a with
   | some r=>some (r,L2,ps.map Prod.fst)
   | none=>none
  | _=>none
 | false=>none
def exS (P:Program) (n:Nat) (ops:Array Oper) (k i:Nat) (a bs:List Nat) (E:cA) (L:Own):List Nat :=
 match exN P n ops k i a bs E L [] with
 | some (_,_,_,ps)=>ps.map Prod.snd
 | none=>[]
theorem E5b:∀ (ps:List (Nat×Nat)),ps.map Prod.fst=ps.map Prod.snd→∀ q ∈ ps,q.1=q.2
 | [],_,q,hq=>by cases hq
 | p::ps,h,q,hq=>by
  simp only [List.map_cons,List.cons.injEq] at h
  rcases List.mem_cons.1 hq with rfl | hq
  ·exact h.1
  ·exact E5b ps h.2 q hq
theorem C3z {k:Nat} {c:List Nat} {b:cA} (h:exL P n ops k i c bs E L b=some (b,L',exS P n ops k i c bs E L)) :
  ∃ R g,exN P n ops k i c bs E L []=some (R,L',[],g)∧(∀ q ∈ g,q.1=q.2)∧∀ a,Has a R→Has a (b++E):=by
 unfold exL at h
 split at h
 ·rename_i f
  split at h
  ·rename_i R L2 ps hR
   split at h
   ·rename_i r hr
    simp only [Option.some.injEq,Prod.mk.injEq] at h
    obtain ⟨rfl,rfl,j⟩:=h
    have m:exS P n ops k i c bs E L=ps.map Prod.snd:=by grind[exS]
    rw [m] at j
    refine ⟨R,ps,hR,E5b ps j,fun a l t v e=>?_⟩
    rw [C0e] at e
    split at e
    ·rename_i u d
     exact (l.weaken (Q2 (C5f hr))) t v (by grind)
    ·rename_i d
     exact l t v (E3n E e d k i f hR e)
   ·cases h
  ·cases h
 ·cases h
theorem E1q (hE:∀ a,Has a E→Has a E') (h:JI P n X ops i m K Q E' L Φ):JI P n X ops i m K Q E L Φ:=fun a w b=>h a w ⟨b.size,b.defers,hE a b.has,b.world⟩
theorem zrg (k m:Nat) (b:List Nat) (a:cA) (L':Own) (g:JI P n X ops (i+k) m K Q (a++E) L' Φ) (h:exL P n ops k i b [] E L a=some (a,L',exS P n ops k i b [] E L):=by kernel_rfl):JI P n X ops i (k+m) K Q E L Φ :=
 B3b k i b 0 fun bs hb=>by
  obtain rfl:=List.length_eq_zero_iff.1 hb
  obtain ⟨R,c,e,d,f⟩:=C3z h
  exact ⟨R,L',c,e,d,E1q f g⟩
theorem D7x (k m:Nat) (c:List Nat) (a:Nat→cA) (L':Nat→Own) (g:∀ b,JI P n X ops (i+k) m K Q (a b++E) (L' b) Φ) (h:∀ b,exL P n ops k i c [b] E L (a b)=some (a b,L' b,exS P n ops k i c [b] E L):=by intros;kernel_rfl):JI P n X ops i (k+m) K Q E L Φ :=
 B3b k i c 1 fun bs hb=>by
  match bs,hb with
  | [b],_ =>
   obtain ⟨R,d,f,e,j⟩:=C3z (h b)
   exact ⟨R,L' b,d,f,e,E1q j (g b)⟩
theorem F8l (k m:Nat) (d:List Nat) (a:Nat→Nat→cA) (L':Nat→Nat→Own) (g:∀ b c,JI P n X ops (i+k) m K Q (a b c++E) (L' b c) Φ) (h:∀ b c,exL P n ops k i d [b,c] E L (a b c)=some (a b c,L' b c,exS P n ops k i d [b,c] E L):=by intros;kernel_rfl):JI P n X ops i (k+m) K Q E L Φ :=
 B3b k i d 2 fun bs hb=>by
  match bs,hb with
  | [b,c],_ =>
   obtain ⟨R,e,j,f,l⟩:=C3z (h b c)
   exact ⟨R,L' b c,e,j,f,E1q l (g b c)⟩
theorem D8c (k m:Nat) (e:List Nat) (a:Nat→Nat→Nat→cA) (L':Nat→Nat→Nat→Own) (g:∀ b c d,JI P n X ops (i+k) m K Q (a b c d++E) (L' b c d) Φ) (h:∀ b c d,exL P n ops k i e [b,c,d] E L (a b c d)=some (a b c d,L' b c d,exS P n ops k i e [b,c,d] E L):=by intros;kernel_rfl):JI P n X ops i (k+m) K Q E L Φ :=
 B3b k i e 3 fun bs hb=>by
  match bs,hb with
  | [b,c,d],_ =>
   obtain ⟨R,f,o,j,l⟩:=C3z (h b c d)
   exact ⟨R,L' b c d,f,o,j,E1q l (g b c d)⟩
theorem ip' (k m:Nat) (new:cA) (g:JI P n X ops (i+k) m K Q (new++E) L Φ) (h:A7r P n ops k i E new=some new:=by kernel_rfl):JI P n X ops i (k+m) K Q E L Φ:=ip k m new h g
theorem dp' (k m:Nat) (new:cA) (g:JD P n X ops (i+k) m K (new++E) L Φ) (h:A7r P n ops k i E new=some new:=by kernel_rfl):JD P n X ops i (k+m) K E L Φ:=dp k m new h g
def C7o (ops:Array Oper):Nat→Nat→Bool
 | 0,_=>true
 | k+1,i=>(match ops[i]? with
  | some o=>!Op.turns o.op
  | none=>false)&&C7o ops k (i+1)
theorem D0s:∀ (k i:Nat) (d:List Nat) {E R:cA} {L2:Own} {ps c:List (Nat×Nat)},C7o ops k i=true→exN P n ops k i d [] E L ps=some (R,L2,[],c)→(∀ q ∈ c,q.1=q.2) →
  JD P n X ops (i+k) m K R L Φ→JD P n X ops i (k+m) K E L Φ
 | 0,i,d,E,R,L2,ps,c,_,h,hq,hk=>by
  simp only [exN,Option.some.injEq,Prod.mk.injEq] at h
  obtain ⟨rfl,_,_,_⟩:=h
  rw [Nat.zero_add];exact hk
 | k+1,i,d,E,R,L2,ps,c,hqt,h,hq,hk=>by
  unfold exN at h
  unfold C7o at hqt
  simp only [Bool.and_eq_true] at hqt
  rw [Nat.add_right_comm]
  have a:JD P n X ops (i+1+k) m K R L Φ:=by rw [Nat.add_assoc,Nat.add_comm 1 k];exact hk
  split at h
  ·cases h
  ·rename_i o g
   have p:Op.turns o.op=false:=by have:=hqt.1;rw [g] at this;simpa using this
   split at h
   ·rename_i hr e
    exact F0c g hr e (D0s k (i+1) d hqt.2 h hq a)
   ·rename_i hr e
    split at h
    ·rename_i v L' j s t r
     have l:∀ q ∈ t,q.1=q.2:=fun q f=>hq q (E2q k (i+1) h q (List.mem_append_left _ f))
     obtain ⟨hb,hL,_,b⟩:=E0j (X:=X) (Φ:=Φ) p r l
     rw [hb,hL] at h
     exact E1s g hr e b.det (D0s k (i+1) j hqt.2 h hq a)
    ·cases h
   ·cases h
theorem G1y (hE:∀ a,Has a E→Has a E') (h:JD P n X ops i m K E' L Φ):JD P n X ops i m K E L Φ:=fun a c b d=>h a c b (hE a d)
theorem zdg (k m:Nat) (b:List Nat) (a:cA) (g:JD P n X ops (i+k) m K (a++E) L Φ) (h:exL P n ops k i b [] E L a=some (a,L,exS P n ops k i b [] E L):=by kernel_rfl) (c:C7o ops k i=true:=by kernel_rfl):JD P n X ops i (k+m) K E L Φ:=by
 obtain ⟨R,j,e,d,f⟩:=C3z h
 exact D0s k i b c e d (G1y f g)
theorem znl (L':Own) (g:JI P n X ops i m K Q E L' Φ) (h:L=L':=by first|rfl|simp only [List.cons_append,List.append_assoc,List.nil_append,List.append_nil]):JI P n X ops i m K Q E L Φ:=h▸g
theorem cK [Decidable p] (d:ev E c=some (.bool (decide p))) (hR:(bif decide p then A else B)=R) (b:A=R→decide p=true→p→J P n X x Q E L Φ) (a:B=R→decide p=false→¬ p→J P n X y Q E L Φ):J P n X (.cond c x y) Q E L Φ :=
 G3 d (fun e=>b (bt hR e) e (of_decide_eq_true e)) (fun e=>a (bf hR e) e (of_decide_eq_false e))
theorem zjn [Decidable p] (d:ev E c=some (.bool (!decide p))) (hR:(bif (!decide p) then A else B)=R) (b:A=R→(!decide p)=true→¬ p→J P n X x Q E L Φ) (a:B=R→(!decide p)=false→¬ ¬ p→J P n X y Q E L Φ):J P n X (.cond c x y) Q E L Φ :=
 G3 d (fun e=>b (bt hR e) e (by grind)) (fun e=>a (bf hR e) e (not_not_intro (by grind)))
theorem zjb {b:Bool} (f:ev E c=some (.bool b)) (hR:(bif b then A else B)=R) (d:A=R→b=true→J P n X x Q E L Φ) (a:B=R→b=false→J P n X y Q E L Φ):J P n X (.cond c x y) Q E L Φ :=
 G3 f (fun e=>d (bt hR e) e) (fun e=>a (bf hR e) e)
theorem G0k (hD:X.D=[]):(X.D.map Prod.fst).Nodup∧∀ d ∈ X.D,d.2=.deferred (some []):=by grind
theorem cC (c:X.rho=none) (hD:X.D=[]) (hr:Res P n X a E L Φ v) (x:α) (hL:List.Sublist (L1 x) L) (hΦ:A7 Φ (Φ1 x)) (b:val x=v:=by rfl):JQ n X (E2z P X a α val L1 Φ1 .ret) E L Φ :=
 B7w Z ⟨c,hD⟩ (G0k hD) hr x b hL hΦ
theorem zen (c:X.rho=none) (hD:X.D=[]) (hr:Res P n X a E L Φ v) (x:α) (hL:List.Sublist (L1 x) L) (hΦ:A7 Φ (Φ1 x)) (b:val x=v:=by rfl):JQ n X (E2z P X a α val L1 Φ1 .normal) E L Φ :=
 E7i Z ⟨c,hD⟩ (G0k hD) hr x b hL hΦ
theorem F7 {val:Unit→Value} (d:X.rho=none) (hD:X.D=[]) (b:a.results=#[.tmp t]:=by rfl) (h:E.lookup t=some v:=by rfl) (c:val ()=v:=by rfl):JQ n X (E2z P X a Unit val (fun _=>[]) (fun _=>[]) .ret) E L Φ :=
 cC d hD (I9 b (A6 h)) () (List.nil_sublist _) A7.nil c
theorem B6u {s:Nat} {val:Unit→Value} {u:Value} (d:X.rho=none) (hD:X.D=[]) (b:a.results=#[.tmp t,.tmp s]:=by rfl) (h:E.lookup t=some v:=by rfl) (k:E.lookup s=some u:=by rfl) (c:val ()=.tuple #[v,u]:=by rfl):JQ n X (E2z P X a Unit val (fun _=>[]) (fun _=>[]) .ret) E L Φ :=
 cC d hD (Y4 b (A6 h) (A6 k)) () (List.nil_sublist _) A7.nil c
theorem zai {R:cA} (c t p:Nat) {b:Bool} (j:g=b) (hR:R.drop c=E:=by rfl) (f:D2p E t p (R.take c)=true:=by rfl) (h:E.lookup t=some (.bool g):=by rfl) (d:R.lookup t=some (.bool b):=by rfl) (e:R.lookup p=some v:=by rfl) {Q':Exit→Act→World→Prop}:JI P n X ops i 0 (fun a w=>St n X ((p,v)::E) L Φ a w) Q' R L Φ :=by grind[A1,I1,A7.refl]
theorem zad {R:cA} (c t p:Nat) {b:Bool} (j:g=b) (hR:R.drop c=E:=by rfl) (f:D2p E t p (R.take c)=true:=by rfl) (h:E.lookup t=some (.bool g):=by rfl) (d:R.lookup t=some (.bool b):=by rfl) (e:R.lookup p=some v:=by rfl):JD P n X ops i 0 (fun a _=>a.tmps.size=n∧a.defers=X.marks∧Has a ((p,v)::E)) R L Φ :=by grind[E3b,G5t]
theorem zca {c:Call} (b:J7 P k args Φ0 v) (hΦ:A7 Φ Φ0)
  (h:JI P n X ops (i+1) m K Q (cA.put E o.dst v) L Φ) (hat:C7f n ops i E=some o:=by rfl) (e:o.op=.call c:=by rfl) (g:c.callee=.value fv:=by rfl) (d:ev E fv=some (.func (.func k) first cap):=by rfl) (a:c.args.toList.mapM (ev E)=some vs:=by rfl) (f:(first++vs.toArray++cap).toList=args:=by rfl):JI P n X ops i (m+1) K Q E L Φ :=
 ixc hat (B7j b e g d a f hΦ) h
theorem zcd {c:Call} (b:J7 P k args Φ0 v) (hΦ:A7 Φ Φ0)
  (h:JD P n X ops (i+1) m K (cA.put E o.dst v) L Φ) (hat:C7f n ops i E=some o:=by rfl) (e:o.op=.call c:=by rfl) (g:c.callee=.value fv:=by rfl) (d:ev E fv=some (.func (.func k) first cap):=by rfl) (a:c.args.toList.mapM (ev E)=some vs:=by rfl) (f:(first++vs.toArray++cap).toList=args:=by rfl):JD P n X ops i (m+1) K E L Φ :=
 ddc hat (B7j b e g d a f hΦ) h
theorem bY (k m:Nat) (b:List Nat) (a:cA) (g:JI P n X ops (i+k) m K Q (a++E) L Φ) (h:exL P n ops k i b [] E L a=some (a,L,exS P n ops k i b [] E L):=by kernel_rfl):JI P n X ops i (k+m) K Q E L Φ:=by grind[zrg]
theorem zcm {c:Call}
  (b:cM P k args [] Φ0 α val (fun _=>[]) Φ1) (hΦ:A7 Φ Φ0) (h:∀ x,JI P n X ops (i+1) m K Q (cA.put E o.dst (val x)) L (Φ1 x++Φ)) (hat:C7f n ops i E=some o:=by rfl) (e:o.op=.call c:=by rfl) (g:c.callee=.value fv:=by rfl)
  (d:ev E fv=some (.func (.func k) first cap):=by rfl) (a:c.args.toList.mapM (ev E)=some vs:=by rfl) (f:(first++vs.toArray++cap).toList=args:=by rfl):JI P n X ops i (m+1) K Q E L Φ :=
 it hat (I4 (L2:=L) b e g d a f hΦ jK (fun _=>L) jJ) h
theorem zia (k m t p:Nat) (x:Bool) (c:g=true→JI P n X ops i k (fun a w=>St n X ((p,.bool x)::E) L Φ a w) Q ((t,.bool true)::E) L Φ) (h:JI P n X ops (i+k) m K Q ((p,.bool (g&&x))::E) L Φ)
  (d:E.lookup t=some (.bool g):=by rfl) (b:A7r P n ops k i ((t,.bool false)::E) [(p,.bool false)]=some [(p,.bool false)]:=by kernel_rfl):JI P n X ops i (k+m) K Q E L Φ:=by grind[G4m]
theorem zio (k m t p:Nat) (x:Bool) (c:g=false→JI P n X ops i k (fun a w=>St n X ((p,.bool x)::E) L Φ a w) Q ((t,.bool false)::E) L Φ) (h:JI P n X ops (i+k) m K Q ((p,.bool (g||x))::E) L Φ)
  (d:E.lookup t=some (.bool g):=by rfl) (b:A7r P n ops k i ((t,.bool true)::E) [(p,.bool true)]=some [(p,.bool true)]:=by kernel_rfl):JI P n X ops i (k+m) K Q E L Φ:=by grind[ior]
theorem zda (k m t p:Nat) (x:Bool) (c:g=true→JD P n X ops i k (fun a _=>a.tmps.size=n∧a.defers=X.marks∧Has a ((p,.bool x)::E)) ((t,.bool true)::E) L Φ) (h:JD P n X ops (i+k) m K ((p,.bool (g&&x))::E) L Φ)
  (d:E.lookup t=some (.bool g):=by rfl) (b:A7r P n ops k i ((t,.bool false)::E) [(p,.bool false)]=some [(p,.bool false)]:=by kernel_rfl):JD P n X ops i (k+m) K E L Φ:=by grind[G4z]
theorem zdO (k m t p:Nat) (x:Bool) (c:g=false→JD P n X ops i k (fun a _=>a.tmps.size=n∧a.defers=X.marks∧Has a ((p,.bool x)::E)) ((t,.bool false)::E) L Φ) (h:JD P n X ops (i+k) m K ((p,.bool (g||x))::E) L Φ)
  (d:E.lookup t=some (.bool g):=by rfl) (b:A7r P n ops k i ((t,.bool true)::E) [(p,.bool true)]=some [(p,.bool true)]:=by kernel_rfl):JD P n X ops i (k+m) K E L Φ:=by grind[dor]
def cL (m k:Nat):Array Bool:=((List.range m).map k.testBit).toArray
theorem zhk {c:Nat} {a:Array Bool} (i:Nat) (listed':Array Bool) (f:ops[i]?=some o) (j:J8 P X o E (b.of ops i) Φs v) (h:JH P n X ops c listed' K b Φs (cA.put E o.dst v) L Φ)
  (k:B3p ops o E=some true:=by rfl) (d:A1m n o.dst=true:=by rfl) (e:B4r ops b a i=true:=by kernel_rfl) (g:a.setIfInBounds i true=listed':=by kernel_rfl):JH P n X ops (c+1) a K b Φs E L Φ :=
 F9t i _ listed' f k d e Z g j h
theorem zhl {c:Nat} {a:Array Bool} (i:Nat) (Ls:Own) (listed':Array Bool) (g:ops[i]?=some o) (k:J8 P X o E Ls Φs v) (h:JH P n X ops c listed' K b Φs (cA.put E o.dst v) L Φ)
  (l:B3p ops o E=some true:=by rfl) (e:A1m n o.dst=true:=by rfl) (f:B4r ops b a i=true:=by kernel_rfl) (d:b.of ops i=Ls:=by kernel_rfl) (j:a.setIfInBounds i true=listed':=by kernel_rfl):JH P n X ops (c+1) a K b Φs E L Φ :=by grind[F9t]
theorem zho {c:Nat} {a:Array Bool} (i:Nat) {L':α→Own} {Φ':α→List Pers} (Lh:Own) (listed':Array Bool) (f:ops[i]?=some o) (k:Tri P n X o E L Φ α val L' Φ') (d:∀ x,Lh.Sublist (L' x)) (hΦ':∀ x,A7 (Φ' x) Φs)
  (h:∀ x,JH P n X ops c listed' K b Φs (cA.put E o.dst (val x)) (L' x) (Φ' x)) (l:B3p ops o E=some true:=by rfl) (e:A1m n o.dst=true:=by rfl) (hr:Region.ready .any ops a=[i]:=by kernel_rfl) (g:a.setIfInBounds i true=listed':=by kernel_rfl) (j:b.at listed'=Lh:=by kernel_rfl) :
  JH P n X ops (c+1) a K b Φs E L Φ:=hone i Lh listed' f l e hr g j k d hΦ' h
theorem zhp {d:A2q} (is:List Nat) (c:Nat) {b:Array Bool} (a:Array Bool) (e:cA) (g:JH P n X ops c a K d Φs (e++E) L Φ) (h:C4d P n ops d is b E e=some (a,e):=by kernel_rfl):JH P n X ops (is.length+c) b K d Φs E L Φ:=by grind[G4t]
theorem zja [Decidable p] [Decidable q] (d:ev E c=some (.bool (decide p&&decide q))) (hR:(bif (decide p&&decide q) then A else B)=R) (b:A=R→(decide p&&decide q)=true→p∧q→J P n X x Q E L Φ) (a:B=R→(decide p&&decide q)=false→¬ (p∧q)→J P n X y Q E L Φ):J P n X (.cond c x y) Q E L Φ :=
 G3 d (fun e=>b (bt hR e) e (by grind)) (fun e=>a (bf hR e) e (by grind))
theorem zjo [Decidable p] [Decidable q] (d:ev E c=some (.bool (decide p||decide q))) (hR:(bif (decide p||decide q) then A else B)=R) (b:A=R→(decide p||decide q)=true→p∨q→J P n X x Q E L Φ) (a:B=R→(decide p||decide q)=false→¬ (p∨q)→J P n X y Q E L Φ):J P n X (.cond c x y) Q E L Φ :=
 G3 d (fun e=>b (bt hR e) e (by grind)) (fun e=>a (bf hR e) e (by grind))
theorem zid (k m t p:Nat) {g:Prop} [Decidable g] (x:Bool) (c:decide g=true→g→JI P n X ops i k (fun a w=>St n X ((p,.bool x)::E) L Φ a w) Q ((t,.bool true)::E) L Φ) (h:JI P n X ops (i+k) m K Q ((p,.bool (decide g&&x))::E) L Φ)
  (d:E.lookup t=some (.bool (decide g)):=by rfl) (b:A7r P n ops k i ((t,.bool false)::E) [(p,.bool false)]=some [(p,.bool false)]:=by kernel_rfl):JI P n X ops i (k+m) K Q E L Φ:=G4m k m t p x d b (fun e=>c e (of_decide_eq_true e)) h
theorem zir (k m t p:Nat) {g:Prop} [Decidable g] (x:Bool) (c:decide g=false→¬ g→JI P n X ops i k (fun a w=>St n X ((p,.bool x)::E) L Φ a w) Q ((t,.bool false)::E) L Φ) (h:JI P n X ops (i+k) m K Q ((p,.bool (decide g||x))::E) L Φ)
  (d:E.lookup t=some (.bool (decide g)):=by rfl) (b:A7r P n ops k i ((t,.bool true)::E) [(p,.bool true)]=some [(p,.bool true)]:=by kernel_rfl):JI P n X ops i (k+m) K Q E L Φ:=by grind[ior]
theorem zdd (k m t p:Nat) {g:Prop} [Decidable g] (x:Bool) (c:decide g=true→g→JD P n X ops i k (fun a _=>a.tmps.size=n∧a.defers=X.marks∧Has a ((p,.bool x)::E)) ((t,.bool true)::E) L Φ) (h:JD P n X ops (i+k) m K ((p,.bool (decide g&&x))::E) L Φ)
  (d:E.lookup t=some (.bool (decide g)):=by rfl) (b:A7r P n ops k i ((t,.bool false)::E) [(p,.bool false)]=some [(p,.bool false)]:=by kernel_rfl):JD P n X ops i (k+m) K E L Φ:=G4z k m t p x d b (fun e=>c e (of_decide_eq_true e)) h
theorem zdr (k m t p:Nat) {g:Prop} [Decidable g] (x:Bool) (c:decide g=false→¬ g→JD P n X ops i k (fun a _=>a.tmps.size=n∧a.defers=X.marks∧Has a ((p,.bool x)::E)) ((t,.bool false)::E) L Φ) (h:JD P n X ops (i+k) m K ((p,.bool (decide g||x))::E) L Φ)
  (d:E.lookup t=some (.bool (decide g)):=by rfl) (b:A7r P n ops k i ((t,.bool true)::E) [(p,.bool true)]=some [(p,.bool true)]:=by kernel_rfl):JD P n X ops i (k+m) K E L Φ:=by grind[dor]
theorem zco {f:FuncId} {c:Code} {L0:Own} (e:P.funcs[f]?=some a) (E0:cA)
  (h:∀ X:Cx,X.M=L0.map Prod.fst→X.rho=none→X.D=[]→J P n X c (E2z P X a α val L1 Φ1) E0 L0 Φ0) (hb:a.body=some c:=by rfl) (g:a.ntmps=n:=by rfl) (hE:R0 ((List.range args.length).zip args) E0:=by repeat' first|exact trivial|refine ⟨rfl,?_⟩)
  (b : (a.name == "runtime.NumGoroutine") = false := by kernel_rfl) (d : Nat.ble args.length n = true := by rfl) : cM P f args L0 Φ0 α val L1 Φ1 :=by grind[E4s]
abbrev zq {k:Nat} (q:Option Addr) (c:Nat) (a:k≤c:=by first|omega|(simp only [List.length_take,List.length_drop,List.length_append,List.length_cons,List.length_nil,List.length_set,List.length_map];omega)|(simp<;>omega)|decide) (b:k≤9223372036854775807:=by first|omega|(simp only [List.length_take,List.length_drop,List.length_append,List.length_cons,List.length_nil,List.length_set,List.length_map];omega)|(simp<;>omega)|decide):{t:Option Addr×Nat // k≤t.2∧k≤9223372036854775807}:=⟨(q,c),a,b⟩
end
end
section
variable {β1:Type}
section
variable {P:Program} {n:Nat} {X:Cx} {K:Act→World→Prop} {Q:Exit→Act→World→Prop} {E E':cA} {L L':Own} {Φ Φ':List Pers}
theorem A1y {c:Code} (F:β1→Prop×cA×Own×List Pers×Nat) (b:β1) (e:(F b).1) (hL:List.Sublist (F b).2.2.1 L) (hΦ:A7 Φ (F b).2.2.2.1) (h:∀ b,(F b).1→J P n X c (Exit.then (fun a w=>∃ d,(F d).1∧(F d).2.2.2.2<(F b).2.2.2.2∧St n X (F d).2.1 (F d).2.2.1 (F d).2.2.2.1 a w) Q) (F b).2.1 (F b).2.2.1 (F b).2.2.2.1) (hE:R0 E (F b).2.1:=by repeat' first|exact trivial|refine ⟨rfl,?_⟩|refine ⟨by first|rfl|(simp only [List.length_set,List.length_append,List.length_cons,List.length_nil];rfl)|(simp;done)|(simp;omega),?_⟩):J P n X (.loop c) Q E L Φ :=
 JL1 (fun b=>(F b).1) (fun b=>(F b).2.1) (fun b=>(F b).2.2.1) (fun b=>(F b).2.2.2.1) (fun b=>(F b).2.2.2.2) b e hE hL hΦ h
theorem Z0 {F:β1→Prop×cA×Own×List Pers×Nat} {z1:β1} (b:β1) (e:(F b).1) (hμ:(F b).2.2.2.2<(F z1).2.2.2.2) (hL:List.Sublist (F b).2.2.1 L) (hΦ:A7 Φ (F b).2.2.2.1) (hE:R0 E (F b).2.1:=by repeat' first|exact trivial|refine ⟨rfl,?_⟩|refine ⟨by first|rfl|(simp only [List.length_set,List.length_append,List.length_cons,List.length_nil];rfl)|(simp;done)|(simp;omega),?_⟩):JQ n X (fun a w=>∃ c,(F c).1∧(F c).2.2.2.2<(F z1).2.2.2.2∧St n X (F c).2.1 (F c).2.2.1 (F c).2.2.2.1 a w) E L Φ :=
 fun _ _ d=>⟨b,e,hμ,d.size,d.defers,d.has.weaken (Q2 hE),(d.world.sub hL).foll hΦ⟩
theorem A7i {x y:Code} (F:β1→Prop×cA×Own×List Pers) (d:J P n X x (Exit.then (fun a w=>∃ b,(F b).1∧St n X (F b).2.1 (F b).2.2.1 (F b).2.2.2 a w) Q) E L Φ) (c:∀ b,(F b).1→J P n X y Q (F b).2.1 (F b).2.2.1 (F b).2.2.2):J P n X (.seq x y) Q E L Φ :=
 JS1 (fun b=>(F b).1) (fun b=>(F b).2.1) (fun b=>(F b).2.2.1) (fun b=>(F b).2.2.2) d c
theorem S6 {F:β1→Prop×cA×Own×List Pers} (b:β1) (e:(F b).1) (hL:List.Sublist (F b).2.2.1 L) (hΦ:A7 Φ (F b).2.2.2) (hE:R0 E (F b).2.1:=by repeat' first|exact trivial|refine ⟨rfl,?_⟩|refine ⟨by first|rfl|(simp only [List.length_set,List.length_append,List.length_cons,List.length_nil];rfl)|(simp;done)|(simp;omega),?_⟩):JQ n X (fun a w=>∃ c,(F c).1∧St n X (F c).2.1 (F c).2.2.1 (F c).2.2.2 a w) E L Φ :=
 fun _ _ d=>⟨b,e,d.size,d.defers,d.has.weaken (Q2 hE),(d.world.sub hL).foll hΦ⟩
theorem zst {o:Oper} {T U:TypeId} {x y:Operand} {a b:List UInt8} (c:o.op=.binOp .add T x y U) (e:ev E x=some (.string (bs a))) (d:ev E y=some (.string (bs b))) (h:a.length+b.length≤9223372036854775807:=by first|omega|(simp only [List.length_cons,List.length_nil,List.length_append,List.length_take,List.length_drop];omega)):J8 P X o E L Φ (.string (bs (a++b))):=E0p c e d h
end
end
section
variable {α:Type} {L1:α→Own} {β:Type} {enc:β→Value} {gf:FuncId} {val:α→Value} {xs:List β} {Φ0:List Pers}
def D6h (P:Program) (gf:FuncId) (a:List Value) (L1:Own) (Φ0:List Pers) {β:Type} (enc:β→Value) (xs:List β):Prop :=
 HasBody P gf∧∀ (l:Nat) (w:World) (h:Hp) (I:List β→Own→List Pers→Prop) (Ix:Own→List Pers→Prop) (L:Own) (Φ:List Pers),I xs L Φ→(∀ q ∈ Φ0,q.p h)→(∀ q ∈ Φ,q.p h)→h.sub w→A5x (L1++L) h w →
  (∀ x rest L Φ,I (x::rest) L Φ→B8d P l (enc x) L Φ fun b L' Φ'=>if b then I rest L' Φ' else Ix L' Φ') →
  Calls P gf (#[.func (.yield l) #[] #[]]++a.toArray) w fun e w'=>(∃ v,e=.returned v)∧∃ L' Φ',(I [] L' Φ'∨Ix L' Φ')∧cG (cx w h ((L1++L).map Prod.fst)) L' Φ' w'
theorem cM.lend {P:Program} {f:FuncId} {args:List Value} {L0:Own} {c:β→List Value} {T sz:Nat} {r:VR} (z:bT sz xs.length r) (m:cM P f args L0 (sl c (va r.q) xs::Φ0) α val L1 (fun _=>[])) :
  cM P f args (vo c T r xs++L0) Φ0 α val (fun x=>vo c T r xs++L1 x) (fun _=>[]):=by
 refine ⟨m.1,fun w h hΦ hs ho=>?_⟩
 unfold vo at ho ⊢
 cases hq:r.q with
 | none =>
  rw [hq] at ho
  unfold bT at z
  rw [hq] at z
  have hx:xs=[]:=List.length_eq_zero_iff.1 z.1
  refine (m.2 w h (fun q l=>?_) hs ho)
  rcases List.mem_cons.1 l with rfl | l
  ·rw [hq,hx];rfl
  grind
 | some b =>
  rw [hq] at ho
  simp only [List.cons_append,List.nil_append] at ho ⊢
  obtain ⟨o,hbo⟩:∃ o,bx b (xs.flatMap c++r.j) T=(b,o):=⟨_,rfl⟩
  have a4:o=.cells (xs.flatMap c++r.j).toArray T (0,0):=(Prod.mk.inj hbo).2.symm
  rw [hbo] at ho ⊢
  obtain ⟨a1,y⟩:=ho.1 (b,o) jU
  simp only at a1 y
  have t:=ho.2
  rw [List.map_cons,List.nodup_cons] at t
  have a6:h.le (fun i=>if i=b then some o else h i):=fun i u e=>by
   grind
  refine (m.2 w (fun i=>if i=b then some o else h i) (fun q l=>?_) (fun i u e=>?_) ⟨fun e g=>⟨(ho.1 e (List.mem_cons_of_mem _ g)).1,?_⟩,t.2⟩).mono fun e w' hx=>?_
  ·rcases List.mem_cons.1 l with rfl | l
   ·rw [hq]
    refine .inr ⟨rfl,_,_,_,show (if b=b then some o else h b)=_ by rw [if_pos rfl,a4],fun j v hj=>?_⟩
    grind
   ·exact q.mono a6 (hΦ q l)
  ·simp only at e
   by_cases p:i=b
   ·grind
   ·rw [if_neg p] at e;exact hs i u e
  ·have:e.1≠b:=fun e'=>t.1 (List.mem_map.2 ⟨e,g,e'⟩)
   simp only [if_neg this];exact (ho.1 e (List.mem_cons_of_mem _ g)).2
  ·obtain ⟨x,rfl,h2,a⟩:=hx
   refine ⟨x,rfl,⟨(fun i=>if i=b then none else h2 i),?_⟩⟩
   refine ⟨fun q l=>(by cases l),fun i u e=>?_,fun i u e=>?_,fun i p=>?_,⟨fun e g=>?_,?_⟩,fun e g=>?_,⟨a.kept.os,a.kept.tape,a.kept.output,a.kept.size,fun k hk l=>a.kept.block k hk (fun a2=>l (List.mem_cons_of_mem _ a2))⟩,fun d hd=>(by cases hd)⟩
   ·skip
    by_cases p:i=b
    ·grind
    ·rw [if_neg p] at e;exact a.sub i u e
   ·have:i≠b:=fun e'=>by
     grind
    simp only [if_neg this]
    exact a.le i u (by grind)
   ·skip
    by_cases hb:i=b
    ·grind
    ·rw [if_neg hb] at p
     rcases a.dom i p with n | n
     all_goals grind
   ·have s:h2 b=some o:=a.le b o (by simp)
    rcases List.mem_cons.1 g with rfl | g
    ·exact ⟨a.sub b o s,by simp⟩
    ·refine ⟨(a.own.1 e g).1,?_⟩
     by_cases hb:e.1=b
     ·simp [hb]
     ·simp only [if_neg hb];exact (a.own.1 e g).2
   ·rw [List.map_cons,List.nodup_cons]
    refine ⟨fun l=>?_,a.own.2⟩
    obtain ⟨e,g,hE⟩:=List.mem_map.1 l
    have s:h2 b=some o:=a.le b o (by simp)
    have:=(a.own.1 e g).2
    grind
   ·rcases List.mem_cons.1 g with rfl | g
    ·simp
    ·rcases a.may e g with n | n
     all_goals grind
section
variable {P:Program} {n:Nat} {X:Cx} {K:Act→World→Prop} {Q:Exit→Act→World→Prop} {E E':cA} {L L':Own} {Φ Φ':List Pers}
theorem Tri.own {o:Oper} {Φ1:α→List Pers} (h:Tri P n X o E L Φ α val L1 Φ1) (L':α→Own) (hL:∀ x,L1 x=L' x):Tri P n X o E L Φ α val L' Φ1:=by
 obtain rfl:L1=L':=funext hL
 exact h
theorem E9c {a:Func} {c:Code} {d:List Value} (L1:Own)
  (i : P.funcs[gf]? = some a) (hb : a.body = some c) (e : (a.name == "runtime.NumGoroutine") = false) (j : a.ntmps = n) (f : Nat.ble (d.length + 1) n = true) (E0 : Nat → cA) (hE : ∀ l, R0 ((List.range (d.length + 1)).zip (.func (.yield l) #[] #[] :: d)) (E0 l))
  (h:∀ (X:Cx) (l:Nat) (I:List β→Own→List Pers→Prop) (Ix:Own→List Pers→Prop) (L:Own) (Φ:List Pers),X.M=(L1++L).map Prod.fst→X.rho=none→X.D=[]→I xs L Φ →
   (∀ x rest L Φ,I (x::rest) L Φ→B8d P l (enc x) L Φ fun b L' Φ'=>if b then I rest L' Φ' else Ix L' Φ')→J P n X c (E1b P X a fun L' Φ'=>I [] L' Φ'∨Ix L' Φ') (E0 l) (L1++(L++[])) (Φ0++Φ)):D6h P gf d L1 Φ0 enc xs :=
 have g:=aa (γ:=Unit) (ok:=fun _ _=>True) (vs:=fun x _=>[enc x]) (fx:=fun _ _=>[]) L1 i hb e j f E0 hE fun X l I Ix L Φ h1 h2 h3 h4 hy=>h X l I Ix L Φ h1 h2 h3 h4 fun x rest L Φ hI=>hy x rest L Φ () trivial hI
 ⟨g.1,fun l w p I Ix L Φ h1 h2 h3 h4 h5 hy=>g.2 l w p I Ix L Φ h1 h2 h3 h4 h5 fun x rest L Φ _ _ hI=>hy x rest L Φ hI⟩
theorem F4s {g:Operand} {p:Nat} {ps:Array Tmp} {a f:Code} {r:List Value}
  (m:X.rho=none) (y:ev E g=some (.func (.func gf) #[] r.toArray)) {L1:Own} (j:D6h P gf r L1 Φ0 enc xs) (hΦ0:A7 Φ Φ0) (o:ps=#[p]) (q:A1m n (some p)=true)
  {σ:Type} (I:List β→σ→Prop) (Jx:Code→σ→Prop) (Lk:σ→Own) (Φk:σ→List Pers) (k:σ) (u:I xs k) (hL:(Lk k++L1).Sublist L) (hΦ:A7 Φ (Φk k))
  (e:∀ x rest s,I (x::rest) s→∀ (Y Y':Cx) (K:Act→World→Prop),Y.rho.isSome=true →
   (∀ E L Φ,J P n Y' f (RP Y' I Jx Lk Φk rest) E L Φ→JQ n Y K E L Φ)→J P n Y a (Exit.then K (fun _ _ _=>False)) (cA.put E (some p) (enc x)) (Lk s) (Φk s))
  (b:∀ d s,d ∉ X.D.map Prod.fst→I [] s→JQ n (X.wd ((d,.deferred (some []))::X.D)) (Q .normal) E (Lk s) (Φk s))
  (i:∀ d c s,d ∉ X.D.map Prod.fst→Jx c s→J P n (X.wd ((d,.deferred (some []))::X.D)) c Q E (Lk s) (Φk s)):J P n X (.rangeFunc g ps a f) Q E L Φ :=
 ab (γ:=Unit) (ok:=fun _ _=>True) (vs:=fun x _=>[enc x]) (fx:=fun _ _=>[]) m y (L1:=L1) ⟨j.1,fun l w h I Ix L Φ h1 h2 h3 h4 h5 hy=>j.2 l w h I Ix L Φ h1 h2 h3 h4 h5 fun x rest L Φ hI=>hy x rest L Φ () trivial hI⟩ hΦ0 [p] o (fun t v=>by grind[A1m,Nat.blt_eq]) (fun _ _=>Z)
  I Jx Lk Φk k u hL hΦ (fun x rest s _ _=>e x rest s) b i
end
end
section
variable {T b:Nat} {c:Call} {dCap dLen e:Nat} {α:Type} {f:α→List Value} {o:Oper} {post pre:Own} {r:VR} {sCap sLen sz ty:Nat} {w:World} {x:Operand} {xs:List α} {y:Operand} {ys:List α}
section
variable {P:Program} {n:Nat} {X:Cx} {K:Act→World→Prop} {Q:Exit→Act→World→Prop} {E E':cA} {L L':Own} {Φ Φ':List Pers}
theorem D2f {off TT:Nat} {a:Addr} {cs us:List Value} (f:SlTy P T e sz) (i:w.heap[b]?=some (.cells cs.toArray TT (0,0))) (k:us.length=Nat.min sLen dLen * sz) (d:∀ j v,us[j]?=some v→w.cell? (a.add j)=some v)
  (hone:∀ v ∈ us,v.oneCell'=true) (c:off+us.length≤cs.length) :
  (Builtin.copy_ #[T,T] ty #[.slice (some ⟨b,off,none⟩) dLen dCap,.slice (some a) sLen sCap]).run P w=.ok (goInt (Nat.min sLen dLen)) (w.setRow b (A6k cs us off).toArray):=by
 have h:=run_firstCells_some (P:=P) w sz (Nat.min sLen dLen) a sLen sCap us k d
 have g:=run_storeCells_at P b off TT us 0 cs.toArray w i (by omega) hone
 simp only [Builtin.copy_,Sem.run_bind,run_underlying f.ty,Result.andThen_ok,f.run,Builtin.lenOf]
 simp [h,g,A6k,Builtin.lenOf,run_underlying f.ty,f.run]
theorem C6i {d s:Option Addr} (a:SlTy P T e sz) (c:Nat.min sLen dLen=0) :
  (Builtin.copy_ #[T,T] ty #[.slice d dLen dCap,.slice s sLen sCap]).run P w=.ok (goInt 0) w:=by
 have b:∀ (x:Addr),(loadCells x 0).run P w=.ok #[] w:=fun x=>by rfl
 cases d<;>cases s<;>simp [Builtin.copy_,run_underlying a.ty,a.run,Builtin.lenOf,Builtin.firstCells,c,storeCells,b]
theorem C2e (a:∀ x,(f x).length=sz) (xs:List α) (k:Nat):(xs.take k).flatMap f=(xs.flatMap f).take (k * sz):=by
 induction xs generalizing k with
 | nil=>simp
 | cons x xs ih =>
  cases k<;>grind[Nat.succ_mul]
theorem E3m (a:∀ x,(f x).length=sz) (xs:List α) (k:Nat):(xs.drop k).flatMap f=(xs.flatMap f).drop (k * sz):=by
 induction xs generalizing k with
 | nil=>simp
 | cons x xs ih =>
  cases k<;>simp_all[Nat.succ_mul,List.drop_append]
theorem E5t (a:∀ x,(f x).length=sz) (xs ys:List α) (j:List Value) (l:Nat) (h:l+ys.length≤xs.length):A6k (xs.flatMap f++j) (ys.flatMap f) (l * sz)=(xs.take l++(ys++xs.drop (l+ys.length))).flatMap f++j:=by
 have c:l * sz≤(xs.flatMap f).length:=by rw [G8 a];exact Nat.mul_le_mul_right _ opx
 have b:l * sz+ys.length * sz≤(xs.flatMap f).length:=by rw [G8 a,← Nat.add_mul];exact Nat.mul_le_mul_right _ h
 unfold A6k
 rw [G8 a ys,List.take_append_of_le_length c,List.drop_append_of_le_length b,List.flatMap_append,List.flatMap_append,C2e a,E3m a,Nat.add_mul]
 simp
theorem cG.vec {k:Nat} {j:List Value} (a:cG X (pre++(vo f T ⟨some b,k,j⟩ xs++post)) Φ w):cG X (pre++(vo f T ⟨some b,k,j⟩ ys++post)) Φ (w.setRow b (ys.flatMap f++j).toArray):=by
 have g:w.heap[b]?=some (.cells (xs.flatMap f++j).toArray T (0,0)):=by
  obtain ⟨p,d⟩:=a
  exact (d.own.1 (bx b (xs.flatMap f++j) T) (List.mem_append_right _ (List.mem_append_left _ (by simp[vo])))).1
 have hL:(pre++(vo f T ⟨some b,k,j⟩ xs++post))[pre.length]?=some (bx b (xs.flatMap f++j) T):=by simp [vo]
 have h:=a.set (w':=w.setRow b (ys.flatMap f++j).toArray) hL (setRow_heap w b _ _ T (0,0) g) (fun k c=>setRow_other w b k _ c) Z Z Z oom
 simp_all[vo]
theorem F1x {q:Option Addr} {m cc:Nat} (hT:SlTy P T e sz) (z:∀ x,(f x).length=sz) (a7:∀ x,(f x).all (·.oneCell')=true)
  (ho:o.op=.call c) (hc:c.callee=.builtin .copy) (a2:c.args=#[x,y]) (a3:c.argTypes=#[T,T]) (hx:ev E x=some (vv r xs.length)) (hy:ev E y=some (.slice q m cc)) (hm:m=ys.length) (hL:L=pre++(vo f e r xs++post))
  (hq:V5 Φ (sl f q ys)) (a6:bT sz xs.length r) :
  Tri P n X o E L Φ Unit (fun _=>.int .i64 ((min ys.length xs.length:Nat):Int)) (fun _=>pre++(vo f e r (ys.take xs.length++xs.drop ys.length)++post)) (fun _=>Φ):=by
 subst hm
 intro ac w K Q hs hk
 have s:=hs.world
 rw [hL] at s
 obtain ⟨w',d,hw'⟩:∃ w',(Builtin.copy_ #[T,T] o.type #[vv r xs.length,.slice q ys.length cc]).run P w=.ok (goInt (Nat.min ys.length xs.length)) w'∧cG X (pre++(vo f e r (ys.take xs.length++xs.drop ys.length)++post)) Φ w':=by
  obtain ⟨rq,rk,t⟩:=r
  by_cases h0:Nat.min ys.length xs.length=0
  ·grind[C6i]
  ·have a9:¬ min ys.length xs.length=0:=h0
   cases rq with
   | none =>
    have h9:xs.length=0∧rk=0:=a6
    omega
   | some b =>
    obtain ⟨p,hp⟩:=s
    have s:cG X (pre++(vo f e ⟨some b,rk,t⟩ xs++post)) Φ w:=⟨p,hp⟩
    have g:=hq p hp.facts
    cases q with
    | none=>have h9:ys=[]:=g;grind
    | some a =>
     have k:B0p p a (ys.flatMap f):=g
     have hg:w.heap[b]?=some (.cells (xs.flatMap f++t).toArray e (0,0)):=(hp.own.1 (bx b (xs.flatMap f++t) e) (List.mem_append_right _ (List.mem_append_left _ (by simp[vo])))).1
     have l:((ys.take xs.length).flatMap f).length=Nat.min ys.length xs.length * sz:=by grind[G8,List.length_take]
     have d:=D2f (P:=P) (ty:=o.type) (b:=b) (off:=0) (dLen:=xs.length) (dCap:=rk) (sLen:=ys.length) (sCap:=cc) (a:=a) (w:=w) (cs:=xs.flatMap f++t) (us:=(ys.take xs.length).flatMap f) hT hg l
      (fun j u hj=>k.cell hp.sub (by
       simp_all[C2e,List.getElem?_take])) (B8z a7 _) (by rw [l,List.length_append,G8 z];have:Nat.min ys.length xs.length≤xs.length:=Nat.min_le_right _ _;have:=Nat.mul_le_mul_right sz this;omega)
     have i:=E5t z xs (ys.take xs.length) t 0 (by grind)
     rw [Nat.zero_mul,List.take_zero,List.nil_append,Nat.zero_add] at i
     have hd:xs.drop (ys.take xs.length).length=xs.drop ys.length:=by
      rw [List.length_take]
      by_cases h:ys.length≤xs.length
      ·grind
      ·rw [Nat.min_eq_left opx,List.drop_of_length_le (Nat.le_refl _),List.drop_of_length_le opx]
     rw [hd] at i
     rw [i] at d
     exact ⟨_,d,s.vec (ys:=ys.take xs.length++xs.drop ys.length)⟩
 refine B0w (by rw [ho];rfl) ?_
 unfold Oper.wp
 rw [show (execOp ac.eval o).run P w=.ok (.value (goInt (Nat.min ys.length xs.length))) w' by
  simp [execOp,ho,resolve,hc,a2,a3,D5 hs.has hx,D5 hs.has hy,invoke,builtin,d]]
 exact hk () w' hw'
theorem F3g {l h dn dk:Nat} (hT:SlTy P T e sz) (hf:∀ x,(f x).length=sz) (a7:∀ x,(f x).all (·.oneCell')=true)
  (ho:o.op=.call c) (hc:c.callee=.builtin .copy) (a2:c.args=#[x,y]) (a3:c.argTypes=#[T,T]) (hx:ev E x=some (.slice (B5w (va r.q) l sz r.k) dn dk)) (hy:ev E y=some (.slice (va r.q) h r.k)) (hL:L=pre++(vo f e r xs++post)) (v:bT sz xs.length r) (h1:l+dn=xs.length) (h2:h≤xs.length) :
  Tri P n X o E L Φ Unit (fun _=>.int .i64 ((min h dn:Nat):Int)) (fun _=>pre++(vo f e r (xs.take l++(xs.take (min h dn)++xs.drop (l+min h dn)))++post)) (fun _=>Φ):=by
 intro ac w K Q hs hk
 have t:=hs.world
 rw [hL] at t
 obtain ⟨w',d,hw'⟩:∃ w',(Builtin.copy_ #[T,T] o.type #[.slice (B5w (va r.q) l sz r.k) dn dk,.slice (va r.q) h r.k]).run P w=.ok (goInt (Nat.min h dn)) w'∧cG X (pre++(vo f e r (xs.take l++((xs.take (Nat.min h dn))++xs.drop (l+Nat.min h dn)))++post)) Φ w':=by
  obtain ⟨rq,m,s⟩:=r
  by_cases h0:Nat.min h dn=0
  ·refine ⟨w,by grind[C6i],?_⟩
   rw [h0,List.take_zero,List.nil_append,Nat.add_zero,List.take_append_drop];exact t
  ·have ax:¬ min h dn=0:=h0
   cases rq with
   | none =>
    have h9:xs.length=0∧m=0:=v
    omega
   | some b =>
    obtain ⟨p,hp⟩:=t
    have t:cG X (pre++(vo f e ⟨some b,m,s⟩ xs++post)) Φ w:=⟨p,hp⟩
    have a9:xs.length * sz+s.length=m * sz∧xs.length≤m∧m≤maxLen:=v
    have a0:B5w (va (some b)) l sz m=some ⟨b,l * sz,none⟩:=by
     unfold B5w
     rw [if_neg opx]
     simp [va,A3j]
    have hg:w.heap[b]?=some (.cells (xs.flatMap f++s).toArray e (0,0)):=(hp.own.1 (bx b (xs.flatMap f++s) e) (List.mem_append_right _ (List.mem_append_left _ (by simp[vo])))).1
    have ah:Nat.min h dn≤h:=Nat.min_le_left _ _
    have a4:Nat.min h dn≤dn:=Nat.min_le_right _ _
    have g:((xs.take (Nat.min h dn)).flatMap f).length=Nat.min h dn * sz:=by rw [G8 hf,List.length_take,Nat.min_eq_left opx]
    have d:=D2f (P:=P) (ty:=o.type) (b:=b) (off:=l * sz) (dLen:=dn) (dCap:=dk) (sLen:=h) (sCap:=m) (a:=⟨b,0,none⟩) (w:=w) (cs:=xs.flatMap f++s) (us:=(xs.take (Nat.min h dn)).flatMap f) hT hg g
     (fun j u z=>by
      rw [A3j]
      simp only [World.cell?,hg,Nat.zero_add]
      rw [C2e hf,List.getElem?_take] at z
      grind) (B8z a7 _) (by rw [g,List.length_append,G8 hf,← Nat.add_mul];have:=Nat.mul_le_mul_right sz (show l+Nat.min h dn≤xs.length by omega);omega)
    have i:=E5t hf xs (xs.take (Nat.min h dn)) s l (by grind)
    rw [List.length_take,Nat.min_eq_left (by omega:Nat.min h dn≤xs.length)] at i
    rw [i] at d
    rw [a0]
    exact ⟨_,d,t.vec (ys:=xs.take l++((xs.take (Nat.min h dn))++xs.drop (l+Nat.min h dn)))⟩
 refine B0w (by rw [ho];rfl) ?_
 unfold Oper.wp
 rw [show (execOp ac.eval o).run P w=.ok (.value (goInt (Nat.min h dn))) w' by
  simp [execOp,ho,resolve,hc,a2,a3,D5 hs.has hx,D5 hs.has hy,invoke,builtin,d]]
 exact hk () w' hw'
end
end
section
variable {a:Code} {α:Type} {cc:α→List Value} {f:Code} {g:Operand} {gf:FuncId} {p:Nat} {ps:Array Tmp} {xs:List (List α)} {Φ0:List Pers} {σ:Type}
structure Rwq where
 s:Slc
 b:Bool
def A9a (r:Rwq):List Value:=[.slice r.s.q r.s.n r.s.k,.bool r.b]
theorem K3 {c:α→List Value} {T:Nat}:vo c T VR.nil ([]:List α)=[]:=rfl
def C0w (P:Program) (gf:FuncId) (a:List Value) (L1:Own) (Φ0:List Pers) {α:Type} (c:α→List Value) (xs:List (List α)):Prop :=
 HasBody P gf∧∀ (l:Nat) (w:World) (h:Hp) (I:List (List α)→Own→List Pers→Prop) (Ix:Own→List Pers→Prop) (L:Own) (Φ:List Pers),I xs L Φ→(∀ q ∈ Φ0,q.p h)→(∀ q ∈ Φ,q.p h)→h.sub w→A5x (L1++L) h w →
  (∀ x rest L Φ q k,x.length≤k→x.length≤9223372036854775807→I (x::rest) L Φ→B8d P l (.slice q x.length k) L (sl c q x::Φ) fun b L' Φ'=>if b then I rest L' Φ' else Ix L' Φ') →
  Calls P gf (#[.func (.yield l) #[] #[]]++a.toArray) w fun e w'=>(∃ v,e=.returned v)∧∃ L' Φ',(I [] L' Φ'∨Ix L' Φ')∧cG (cx w h ((L1++L).map Prod.fst)) L' Φ' w'
section
variable {P:Program} {n:Nat} {X:Cx} {K:Act→World→Prop} {Q:Exit→Act→World→Prop} {E E':cA} {L L':Own} {Φ Φ':List Pers}
theorem C7k {a:Func} {c:Code} {d:List Value} (L1:Own)
  (i : P.funcs[gf]? = some a) (hb : a.body = some c) (e : (a.name == "runtime.NumGoroutine") = false) (j : a.ntmps = n) (f : Nat.ble (d.length + 1) n = true) (E0 : Nat → cA) (hE : ∀ l, R0 ((List.range (d.length + 1)).zip (.func (.yield l) #[] #[] :: d)) (E0 l))
  (h:∀ (X:Cx) (l:Nat) (I:List (List α)→Own→List Pers→Prop) (Ix:Own→List Pers→Prop) (L:Own) (Φ:List Pers),X.M=(L1++L).map Prod.fst→X.rho=none→X.D=[]→I xs L Φ →
   (∀ x rest L Φ q k,x.length≤k→x.length≤9223372036854775807→I (x::rest) L Φ→B8d P l (.slice q x.length k) L (sl cc q x::Φ) fun b L' Φ'=>if b then I rest L' Φ' else Ix L' Φ')→J P n X c (E1b P X a fun L' Φ'=>I [] L' Φ'∨Ix L' Φ') (E0 l) (L1++(L++[])) (Φ0++Φ)):C0w P gf d L1 Φ0 cc xs :=
 have g:=aa (γ:=Option Addr×Nat) (ok:=fun (x:List α) (y:Option Addr×Nat)=>x.length≤y.2∧x.length≤9223372036854775807) (vs:=fun (x:List α) (y:Option Addr×Nat)=>[.slice y.1 x.length y.2]) (fx:=fun (x:List α) (y:Option Addr×Nat)=>[sl cc y.1 x]) L1 i hb e j f E0 hE fun X l I Ix L Φ h1 h2 h3 h4 hy=>h X l I Ix L Φ h1 h2 h3 h4 fun x rest L Φ q k ha hb hI=>hy x rest L Φ (q,k) ⟨ha,hb⟩ hI
 ⟨g.1,fun l w p I Ix L Φ h1 h2 h3 h4 h5 hy=>g.2 l w p I Ix L Φ h1 h2 h3 h4 h5 fun x rest L Φ y hk hI=>hy x rest L Φ y.1 y.2 hk.1 hk.2 hI⟩
theorem E7t {z:List Value}
  (o:X.rho=none) (hg:ev E g=some (.func (.func gf) #[] z.toArray)) {L1:Own} (j:C0w P gf z L1 Φ0 cc xs) (hΦ0:A7 Φ Φ0) (r:ps=#[p]) (u:A1m n (some p)=true) (I:List (List α)→σ→Prop) (Jx:Code→σ→Prop) (Lk:σ→Own) (Φk:σ→List Pers) (m:σ) (h0:I xs m) (hL:(Lk m++L1).Sublist L) (hΦ:A7 Φ (Φk m))
  (e:∀ x rest s q k,x.length≤k→x.length≤9223372036854775807→I (x::rest) s→∀ (Y Y':Cx) (K:Act→World→Prop),Y.rho.isSome=true →
   (∀ E L Φ,J P n Y' f (RP Y' I Jx Lk Φk rest) E L Φ→JQ n Y K E L Φ)→J P n Y a (Exit.then K (fun _ _ _=>False)) (cA.put E (some p) (.slice q x.length k)) (Lk s) (sl cc q x::Φk s))
  (b:∀ d s,d ∉ X.D.map Prod.fst→I [] s→JQ n (X.wd ((d,.deferred (some []))::X.D)) (Q .normal) E (Lk s) (Φk s))
  (i:∀ d c s,d ∉ X.D.map Prod.fst→Jx c s→J P n (X.wd ((d,.deferred (some []))::X.D)) c Q E (Lk s) (Φk s)):J P n X (.rangeFunc g ps a f) Q E L Φ :=
 ab (γ:=Option Addr×Nat) (ok:=fun (x:List α) (y:Option Addr×Nat)=>x.length≤y.2∧x.length≤9223372036854775807) (vs:=fun (x:List α) (y:Option Addr×Nat)=>[.slice y.1 x.length y.2]) (fx:=fun (x:List α) (y:Option Addr×Nat)=>[sl cc y.1 x]) o hg (L1:=L1) ⟨j.1,fun l w h I Ix L Φ h1 h2 h3 h4 h5 hy=>j.2 l w h I Ix L Φ h1 h2 h3 h4 h5 fun x rest L Φ q k ha hb hI=>hy x rest L Φ (q,k) ⟨ha,hb⟩ hI⟩ hΦ0 [p] r (fun t ht=>by grind[A1m,Nat.blt_eq]) (fun _ _=>Z)
  I Jx Lk Φk m h0 hL hΦ (fun x rest s y v=>e x rest s y.1 y.2 v.1 v.2) b i
theorem E0l {t:List Value}
  (l:X.rho=none) (v:ev E g=some (.func (.func gf) #[] t.toArray)) (r:C0w P gf t [] Φ0 cc xs) (hΦ0:A7 Φ Φ0) (m:ps=#[p]) (o:A1m n (some p)=true) (I:List (List α)→σ→Prop) (Jx:Code→σ→Prop) (Lk:σ→Own) (Φk:σ→List Pers) (j:σ) (u:I xs j) (hL:(Lk j).Sublist L) (hΦ:A7 Φ (Φk j))
  (e:∀ x rest s q k,x.length≤k→x.length≤9223372036854775807→I (x::rest) s→∀ (Y Y':Cx) (K:Act→World→Prop),Y.rho.isSome=true →
   (∀ E L Φ,J P n Y' f (RP Y' I Jx Lk Φk rest) E L Φ→JQ n Y K E L Φ)→J P n Y a (Exit.then K (fun _ _ _=>False)) (cA.put E (some p) (.slice q x.length k)) (Lk s) (sl cc q x::Φk s))
  (b:∀ d s,d ∉ X.D.map Prod.fst→I [] s→JQ n (X.wd ((d,.deferred (some []))::X.D)) (Q .normal) E (Lk s) (Φk s))
  (i:∀ d c s,d ∉ X.D.map Prod.fst→Jx c s→J P n (X.wd ((d,.deferred (some []))::X.D)) c Q E (Lk s) (Φk s)):J P n X (.rangeFunc g ps a f) Q E L Φ :=
 E7t l v r hΦ0 m o I Jx Lk Φk j u (by grind) hΦ e b i
end
end
section
variable {T b k:Nat} {r:Rwq}
structure Rwc (α:Type) where
 l:List α
 b:Bool
def A3y {α:Type} (c:α→List Value) (rs:List Rwq) (xss:List (Rwc α)):Pers:=D8 c (rs.map Rwq.s) (xss.map Rwc.l)
def W0 {α:Type} (rs:List Rwq) (xss:List (Rwc α)):Prop:=rs.length=xss.length∧B4 (rs.map Rwq.s) (xss.map Rwc.l)∧rs.map Rwq.b=xss.map Rwc.b
abbrev zwq:Rwq:=⟨⟨none,0,0⟩,false⟩
abbrev zwc {α:Type}:Rwc α:=⟨[],false⟩
theorem A3z {α β:Type} (f:α→β) (xs:List α) (k:Nat) (d:α):(xs.map f).getD k (f d)=f (xs.getD k d):=by simp
section
variable {P:Program} {n:Nat} {X:Cx} {K:Act→World→Prop} {Q:Exit→Act→World→Prop} {E E':cA} {L L':Own} {Φ Φ':List Pers} {α:Type} {c:α→List Value} {rs rs':List Rwq} {xss xss':List (Rwc α)}
theorem G0c (ok:W0 rs xss) (h:k<rs.length):(xss.getD k zwc).l.length≤(rs.getD k zwq).s.k∧(xss.getD k zwc).l.length≤9223372036854775807:=by
 have:=Q9 ok.2.1 (k:=k) (d:=(⟨none,0,0⟩:Slc)) (by grind)
 grind
theorem q_n (ok:W0 rs xss) (h:k<rs.length):(rs.getD k zwq).s.n=(xss.getD k zwc).l.length:=by
 have:=M2 ok.2.1 (k:=k) (d:=(⟨none,0,0⟩:Slc)) (by grind)
 grind
theorem G6a (ok:W0 rs xss) (k:Nat):(rs.getD k zwq).b=(xss.getD k zwc).b:=by
 rw [← A3z Rwq.b,← A3z Rwc.b,ok.2.2]
theorem G4d (ok:W0 rs xss) (h:k<rs.length):(Value.agg #[.slice (rs.getD k zwq).s.q (rs.getD k zwq).s.n (rs.getD k zwq).s.k,.bool (rs.getD k zwq).b])=.agg #[.slice (rs.getD k zwq).s.q (xss.getD k zwc).l.length (rs.getD k zwq).s.k,.bool (xss.getD k zwc).b]:=by grind[q_n,G6a]
theorem G5b (ok:W0 rs xss) (j:Nat) (a:Φ[j]?=some (A3y c rs xss)) (h:k<rs.length):V5 Φ (sl c (rs.getD k zwq).s.q (xss.getD k zwc).l):=by
 have:=Q6 ok.2.1 j a (k:=k) (d:=(⟨none,0,0⟩:Slc)) (by grind)
 grind
theorem C3r:V5 Φ (A3y c [] []):=I5
theorem G3k (k:Nat) {x:Rwc α} (a:V5 Φ (A3y c rs xss)) (b:V5 Φ (sl c r.s.q x.l)):V5 Φ (A3y c (rs.set k r) (xss.set k x)):=by grind[A3y,List.map_set,E5r]
theorem G4a {m:Nat}:V5 Φ (A3y c (List.replicate m zwq) (List.replicate m zwc)):=by simp[A3y,F3r]
theorem W0.none:W0 [] ([]:List (Rwc α)):=⟨rfl,B4.none,rfl⟩
theorem W0.cons {x:Rwc α} (c:r.s.n=x.l.length∧r.s.n≤r.s.k∧x.l.length≤9223372036854775807) (hb:r.b=x.b) (a:W0 rs xss):W0 (r::rs) (x::xss):=⟨by simp [a.1],B4.cons c a.2.1,by simp [hb,a.2.2]⟩
theorem W0.append (a:W0 rs xss) (b:W0 rs' xss'):W0 (rs++rs') (xss++xss'):=⟨by simp [a.1,b.1],by rw [List.map_append,List.map_append];exact B4.append a.2.1 b.2.1,by rw [List.map_append,List.map_append,a.2.2,b.2.2]⟩
theorem W0.set (h:W0 rs xss) (k:Nat) {x:Rwc α} (hr:r.s.n=x.l.length∧r.s.n≤r.s.k∧x.l.length≤9223372036854775807) (hb:r.b=x.b):W0 (rs.set k r) (xss.set k x):=⟨by simp [h.1],by rw [List.map_set,List.map_set];exact B4.set h.2.1 k hr,by rw [List.map_set,List.map_set,h.2.2,hb]⟩
theorem W0.rep (m:Nat):W0 (List.replicate m zwq) (List.replicate m (zwc:Rwc α)):=⟨by simp,by simp[B4.rep],by simp⟩
theorem F2p {o:Oper} {e l cc:Nat} {x y:Operand} (m:ApTy P T e 2 b) (p:((P.info? e).bind (·.zero)).map (·.cells)=some #[.slice none 0 0,.bool false])
  (g:o.op=.makeSlice T x y) (i:ev E x=some (.int .i64 (l:Int))) (h:ev E y=some (.int .i64 (cc:Int))) (c:l≤cc) (hb:cc * b≤140737488355328) (d:cc≤9223372036854775807) :
  Tri P n X o E L Φ {a:VR // bT 2 (List.replicate l (zwc:Rwc α)).length a} (fun a=>.slice (va a.1.q) (List.replicate l (zwc:Rwc α)).length a.1.k) (fun a=>L++(vo A9a e a.1 (List.replicate l zwq)++[])) (fun _=>Φ):=by
 have:=C8o (P:=P) (n:=n) (X:=X) (E:=E) (L:=L) (Φ:=Φ) (f:=A9a) zwq m p jJ g i h c hb d
 have j:(List.replicate l (zwc:Rwc α)).length=(List.replicate l zwq).length:=by simp
 rw [j]
 omega
theorem E5j {t sz TT:Nat} {us:List Value} (c:Ty P T sz true) (h:E.lookup t=some (.pointer (some ⟨b,0,none⟩))) (i:Nat) (hL:L[i]?=some (bx b us TT)) (a:us.length=sz) :
  C9d P n X (.cell t T) E L Φ (.agg us.toArray):=by grind[E8]
end
end
section
def F8d (n:Nat) (ops:Array Oper) (T mo:Nat) (a:TypeDesc) (E:cA):Nat→Nat→Nat→List MapEntry→Option (List MapEntry)
 | 0,_,_,es=>some es
 | k+1,i,clk,es=>match C7f n ops i E with
  | none=>none
  | some o=>match o.dst,o.op with
   | none,.insert T' (.tmp t) kk vv=>match Nat.beq T' T&&Nat.beq t mo,ev E kk,ev E vv with
    | true,some kv,some v=>match Instr.findNow a kv es 0 with
     | some none=>F8d n ops T mo a E k (i+1) (clk+1) (es++[⟨kv,v,clk⟩])
     | _=>none
    | _,_,_=>none
   | _,_=>none
section
variable {P:Program} {n:Nat} {X:Cx} {K:Act→World→Prop} {Q:Exit→Act→World→Prop} {E:cA} {Φ:List Pers}
theorem F6g {ops:Array Oper} {T w e:Nat} {d:TypeDesc} {mo b m:Nat} {es':List MapEntry} (l:MapTy P T w e d) (f:E.lookup mo=some (.map (some b))) (ix:Nat):∀ (k i a:Nat) (es:List MapEntry) (L:Own),
  L[ix]?=some (b,.map es.toArray a)→F8d n ops T mo d E k i a es=some es'→JI P n X ops (i+k) m K Q E (L.set ix (b,.map es'.toArray (a+k))) Φ→JI P n X ops i (k+m) K Q E L Φ
 | 0,i,a,es,L,hi,h,g=>by
  simp only [F8d,Option.some.injEq] at h
  subst h
  rw [Nat.zero_add]
  have:L.set ix (b,.map es.toArray (a+0))=L:=by
   apply List.ext_getElem?
   grind
  grind
 | k+1,i,a,es,L,hi,h,g=>by
  unfold F8d at h
  split at h
  ·cases h
  ·rename_i o r
   split at h
   ·rename_i T' t kk vv p c
    split at h
    ·rename_i s v hb u y
     split at h
     ·rename_i q
      rw [Bool.and_eq_true] at hb
      obtain rfl:=Nat.eq_of_beq_eq_true hb.1
      obtain rfl:=Nat.eq_of_beq_eq_true hb.2
      rw [Nat.add_right_comm]
      refine it r (G0 l (.inl c) f u y ix hi (by omega) Z) fun _=>?_
      rw [p]
      refine F6g l f ix k (i+1) (a+1) (es++[⟨s,v,a⟩]) _ ?_ h ?_
      all_goals grind[List.set_set]
     ·cases h
    ·cases h
   ·cases h
end
end
end Go.Fen
namespace Go.Fen
open Go Go.RowKit Go.ChangeShapes
section
variable {P:Program}
end
end Go.Fen
namespace Go.Fen
open Go Go.RowKit
section
variable {rs:List Slc} {α:Type} {xss:List (List α)}
section
variable {P:Program} {n:Nat} {X:Cx} {K:Act→World→Prop} {Q:Exit→Act→World→Prop} {E E':cA} {L L':Own} {Φ Φ':List Pers}
theorem B4.drop (h:B4 rs xss) (k:Nat):B4 (rs.drop k) (xss.drop k):=⟨by simp [h.1],fun i r xs hr a=>h.2 (k+i) r xs (by grind) (by grind)⟩
theorem B4.take (h:B4 rs xss) (k:Nat):B4 (rs.take k) (xss.take k):=⟨by simp [h.1],fun i r xs hr a=>by
 rw [List.getElem?_take] at hr a
 split at hr
 ·rename_i b;rw [if_pos b] at a;exact h.2 i r xs hr a
 grind⟩
theorem W0.drop {rs:List Rwq} {xss:List (Rwc α)} (h:W0 rs xss) (k:Nat):W0 (rs.drop k) (xss.drop k):=⟨by simp [h.1],by rw [List.map_drop,List.map_drop];exact h.2.1.drop k,by rw [List.map_drop,List.map_drop,h.2.2]⟩
theorem W0.take {rs:List Rwq} {xss:List (Rwc α)} (h:W0 rs xss) (k:Nat):W0 (rs.take k) (xss.take k):=⟨by simp [h.1],by rw [List.map_take,List.map_take];exact h.2.1.take k,by rw [List.map_take,List.map_take,h.2.2]⟩
theorem Has.val {a:Act} (c:Has a E) {t:Nat} {v:Value} (d:E.lookup t=some v):Has a ((t,v)::E):=by
 intro b f e
 by_cases he:b=t
 ·subst he;simp [List.lookup] at e;subst e;exact c _ _ d
 ·have:(b == t)=false:=by grind
  simp only [List.lookup,this] at e
  exact c _ _ e
end
end
section
variable {α:Type} {A B:List α} {L0:Own} {L1:α→Own} {L2 M:Own} {a:Value} {args:List Value} {b c:Value} {d:Option Nat} {e:Nat×Obj} {f:Bool} {i:Nat} {k:FuncId} {l:Own} {m:Nat} {ops:Array Oper} {p:Prop} {q:Option Nat} {v:Own} {val:α→Value} {x:Nat×Obj} {Φ0:List Pers} {Φ1:α→List Pers}
section
variable {P:Program} {n:Nat} {X:Cx} {K:Act→World→Prop} {Q:Exit→Act→World→Prop} {E E':cA} {L L':Own} {Φ Φ':List Pers}
theorem f1h {q:Pers}:V5 (q::Φ) q:=A5 0 Z
theorem f1t {q r:Pers} (h:V5 Φ q):V5 (r::Φ) q:=fun p a=>h p fun x b=>a x (List.mem_cons_of_mem _ b)
theorem sbm {e:α} (h:List.Sublist A B):List.Sublist (e::A) (e::B):=h.cons_cons e
theorem sba {v:List α} (h:List.Sublist A B):List.Sublist (v++A) (v++B):=by grind
theorem sbs {e:α} (h:List.Sublist A B):List.Sublist A (e::B):=h.cons e
theorem sbv {v:List α} (h:List.Sublist A B):List.Sublist A (v++B):=by grind
def F2y (e:Nat×Obj) (L L':Own):Prop:=L.Perm (e::L')
theorem re0:F2y e (e::L) L:=List.Perm.refl _
theorem re1 (h:F2y e L L'):F2y e (x::L) (x::L'):=(List.Perm.cons x h).trans (List.Perm.swap e x L')
theorem re2 (h:F2y e L L'):F2y e (v++L) (v++L'):=(List.Perm.append_left v h).trans List.perm_middle
def F3i (v L L':Own):Prop:=L.Perm (v++L')
theorem rv0:F3i v (v++L) L:=List.Perm.refl _
theorem rv1 (h:F3i v L L'):F3i v (x::L) (x::L'):=(List.Perm.cons x h).trans List.perm_middle.symm
theorem rv2 {u:Own} (h:F3i v L L'):F3i v (u++L) (u++L'):=(List.Perm.append_left u h).trans (D5n u v L')
def PkP (L L0 L2:Own):Prop:=L.Perm (L0++L2)
theorem pk0:PkP L [] L:=List.Perm.refl _
theorem pkc (h:F2y e L L') (k:PkP L' l L2):PkP L (e::l) L2:=h.trans (List.Perm.cons e k)
theorem pkv (h:F3i v L L') (k:PkP L' l L2):PkP L (v++l) L2:=by
 unfold PkP;rw [List.append_assoc];exact h.trans (List.Perm.append_left v k)
def SrP (M L:Own):Prop:=M.Perm L
def InP (v L L':Own):Prop:=(v++L).Perm L'
theorem sr0:SrP [] []:=List.Perm.refl _
theorem sr1 (h:SrP M L):SrP (e::M) (e::L):=List.Perm.cons e h
theorem sr2 (h:SrP M L) (k:InP v L L'):SrP (v++M) L':=(List.Perm.append_left v h).trans k
theorem sr3:SrP M M:=List.Perm.refl _
theorem in1 (h:InP v L L'):InP v (e::L) (e::L'):=List.perm_middle.trans (List.Perm.cons e h)
theorem in0:InP v L (v++L):=List.Perm.refl _
theorem sr4 {M':Own} (e:M=M') (h:SrP M' L):SrP M L:=e▸h
def D2h (n:Nat) (ops:Array Oper) (i:Nat) (E:cA):Option (FuncId×List Value×Option Nat) :=
 match C7f n ops i E with
 | some o=>match o.op with
  | .call c=>match c.callee with
   | .value fv=>match ev E fv,c.args.toList.mapM (ev E) with
    | some (.func (.func k) first cap),some vs=>some (k,(first++vs.toArray++cap).toList,o.dst)
    | _,_=>none
   | _=>none
  | _=>none
 | none=>none
theorem B4c (h:D2h n ops i E=some (k,args,d)) :
  ∃ o c a first cap vs,C7f n ops i E=some o∧o.op=.call c∧c.callee=.value a∧ev E a=some (.func (.func k) first cap)∧c.args.toList.mapM (ev E)=some vs∧(first++vs.toArray++cap).toList=args∧o.dst=d:=by
 unfold D2h at h
 grind
theorem zv {v:Value} (f:D2h n ops i E=some (k,args,d)) (a:J7 P k args Φ0 v)
  (h:JI P n X ops (i+1) m K Q (cA.put E d v) L Φ) (hΦ:A7 Φ Φ0:=by first|exact A7.nil|exact A7.refl|(repeat' first|with_reducible exact A7.nil|with_reducible refine A7.con1 ?_ ?_|with_reducible exact f1h|with_reducible refine f1t ?_|exact B3l|exact I5|exact C3r);done|(repeat' first|exact A7.nil|refine A7.con1 ?_ ?_|exact f1h|refine f1t ?_|exact B3l|exact I5|exact C3r)):JI P n X ops i (m+1) K Q E L Φ:=by
 obtain ⟨o,c,q,first,cap,vs,b,l,e,g,j,p,rfl⟩:=B4c f
 exact ixc b (B7j a l e g j p hΦ) h
theorem zvd {v:Value} (f:D2h n ops i E=some (k,args,d)) (a:J7 P k args Φ0 v)
  (h:JD P n X ops (i+1) m K (cA.put E d v) L Φ) (hΦ:A7 Φ Φ0:=by first|exact A7.nil|exact A7.refl|(repeat' first|with_reducible exact A7.nil|with_reducible refine A7.con1 ?_ ?_|with_reducible exact f1h|with_reducible refine f1t ?_|exact B3l|exact I5|exact C3r);done|(repeat' first|exact A7.nil|refine A7.con1 ?_ ?_|exact f1h|refine f1t ?_|exact B3l|exact I5|exact C3r)):JD P n X ops i (m+1) K E L Φ:=by
 obtain ⟨o,c,q,first,cap,vs,b,l,e,g,j,p,rfl⟩:=B4c f
 exact ddc b (B7j a l e g j p hΦ) h
theorem ond (h:p:=by first|(simp +zetaDelta only [List.cons_append,List.nil_append,List.append_assoc];exact Z)|exact Z):p:=h
theorem zc {L3:α→Own} {Φ3:α→List Pers}
  (g:D2h n ops i E=some (k,args,d)) (a:cM P k args L0 Φ0 α val L1 Φ1) (h:∀ x,JI P n X ops (i+1) m K Q (cA.put E d (val x)) (L3 x) (Φ3 x))
  (hL:PkP L L0 L2:=by repeat' first|with_reducible exact pk0|with_reducible apply pkc|with_reducible apply pkv|with_reducible exact re0|with_reducible exact rv0|with_reducible apply re1|with_reducible apply re2|with_reducible apply rv1|with_reducible apply rv2)
  (b:∀ x,SrP (L1 x++L2) (L3 x):=by
   intro _
   refine sr4 ond ?_
   repeat' first|with_reducible exact sr0|with_reducible apply sr1|with_reducible apply sr2|with_reducible apply in1|with_reducible exact in0|exact sr3)
  (hΦ:A7 Φ Φ0:=by first|exact A7.nil|exact A7.refl|(repeat' first|with_reducible exact A7.nil|with_reducible refine A7.con1 ?_ ?_|with_reducible exact f1h|with_reducible refine f1t ?_|exact B3l|exact I5|exact C3r);done|(repeat' first|exact A7.nil|refine A7.con1 ?_ ?_|exact f1h|refine f1t ?_|exact B3l|exact I5|exact C3r))
  (hΦ3:∀ x,Φ1 x++Φ=Φ3 x:=by intro _;first|exact List.nil_append _|(simp only [List.nil_append,List.cons_append];exact Z)|exact Z):JI P n X ops i (m+1) K Q E L Φ:=by
 obtain ⟨o,c,r,first,cap,vs,e,p,f,j,l,q,rfl⟩:=B4c g
 obtain rfl:(fun x=>Φ1 x++Φ)=Φ3:=funext hΦ3
 exact it e (N9 a p f j l q hΦ hL L3 b) h
theorem bW (h:p:=by first|omega|(simp +zetaDelta only [List.length_take,List.length_drop,List.length_append,List.length_cons,List.length_nil,List.length_set,List.length_map,List.length_replicate];omega)|decide|assumption|(dsimp only;omega)|exact oz_):p:=h
abbrev un {α β ρ:Type} (f:α→β→ρ) (x:α×β):ρ:=match x with | (a,b)=>f a b
theorem bU {A B:Own} (h:List.Sublist A B:=by
   first
    | exact List.nil_sublist _
    | exact List.Sublist.refl _
    | (repeat' first | with_reducible exact List.nil_sublist _ | with_reducible exact List.Sublist.refl _ | with_reducible refine sbm ?_ | with_reducible refine sba ?_ | with_reducible refine sbs ?_ | with_reducible refine sbv ?_);done
    | (repeat' first | exact List.nil_sublist _ | exact List.Sublist.refl _ | refine sbm ?_ | refine sba ?_ | refine sbs ?_ | refine sbv ?_);done
    | (simp only [List.length_set];repeat' first | exact List.nil_sublist _ | exact List.Sublist.refl _ | refine sbm ?_ | refine sba ?_ | refine sbs ?_ | refine sbv ?_);done):List.Sublist A B:=h
theorem c9 {A B:List Pers} (h:A7 A B:=by first|exact A7.nil|exact A7.refl|(repeat' first|with_reducible exact A7.nil|with_reducible refine A7.con1 ?_ ?_|with_reducible exact f1h|with_reducible refine f1t ?_|exact B3l|exact I5|exact C3r);done|(repeat' first|exact A7.nil|refine A7.con1 ?_ ?_|exact f1h|refine f1t ?_|exact B3l|exact I5|exact C3r)):A7 A B:=h
def G0p:Nat→List Value→cA
 | _,[]=>[]
 | i,v::l=>(i,v)::G0p (i+1) l
theorem D4x:∀ (xs:List Value) (k j:Nat),((List.range' k xs.length).zip xs).lookup (k+j)=xs[j]?
 | [],k,j=>rfl
 | v::xs,k,j=>by
  simp only [List.length_cons,List.range'_succ,List.zip_cons_cons,List.lookup_cons]
  cases j with
  | zero=>simp
  | succ j =>
   have e:(k+(j+1) == k)=false:=by simp
   rw [e,show k+(j+1)=(k+1)+j by omega]
   simpa using D4x xs (k+1) j
theorem D2o {A:cA}:∀ (l:List Value) (k:Nat),(∀ j,j<l.length→A.lookup (k+j)=l[j]?)→R0 A (G0p k l)
 | [],_,_=>trivial
 | v::l,k,h=>⟨by simpa using h 0 oom,D2o l (k+1) fun j a=>by
   have:=h (j+1) (by grind)
   grind⟩
theorem cD {f:FuncId} {a:Func} {c:Code} (e:P.funcs[f]?=some a)
  (h:∀ X:Cx,X.M=L0.map Prod.fst→X.rho=none→X.D=[]→J P n X c (E2z P X a α val L1 Φ1) (G0p 0 args) L0 Φ0) (hb:a.body=some c:=by rfl) (g:a.ntmps=n:=by rfl)
  (b : (a.name == "runtime.NumGoroutine") = false := by kernel_rfl) (d : Nat.ble args.length n = true := by rfl) : cM P f args L0 Φ0 α val L1 Φ1 :=
 E4s e hb b g d _ (D2o args 0 fun j i=>by rw [List.range_eq_range',D4x]) h
theorem pp0 (k:Nat) (h:A7r P n ops k i E []=some []) (g:JI P n X ops (i+k) m K Q ([]++E) L Φ):JI P n X ops i (m+k) K Q E L Φ:=Nat.add_comm k m▸ip k m _ h g
theorem bP (k b:Nat) (h:A7r P n ops k i E [(b,a)]=some [(b,a)]) (g:JI P n X ops (i+k) m K Q ([(b,a)]++E) L Φ):JI P n X ops i (m+k) K Q E L Φ:=Nat.add_comm k m▸ip k m _ h g
theorem pd1 (k b:Nat) (h:A7r P n ops k i E [(b,a)]=some [(b,a)]) (g:JD P n X ops (i+k) m K ([(b,a)]++E) L Φ):JD P n X ops i (m+k) K E L Φ:=Nat.add_comm k m▸dp k m _ h g
theorem cB (k:Nat) (b:List Nat) (c:Nat) (h:exL P n ops k i b [] E L [(c,a)]=some ([(c,a)],L,exS P n ops k i b [] E L)) (g:JI P n X ops (i+k) m K Q ([(c,a)]++E) L Φ):JI P n X ops i (m+k) K Q E L Φ:=Nat.add_comm k m▸bY k m b _ g h
theorem pg1 (k:Nat) (b:List Nat) (c:Nat) (h:exL P n ops k i b [] E L [(c,a)]=some ([(c,a)],L,exS P n ops k i b [] E L)) (g:JD P n X ops (i+k) m K ([(c,a)]++E) L Φ) (d:C7o ops k i=true:=by kernel_rfl):JD P n X ops i (m+k) K E L Φ:=Nat.add_comm k m▸zdg k m b _ g h d
theorem cF (k d a:Nat) (h:A7r P n ops k i E [(d,c),(a,b)]=some [(d,c),(a,b)]) (g:JI P n X ops (i+k) m K Q ([(d,c),(a,b)]++E) L Φ):JI P n X ops i (m+k) K Q E L Φ:=Nat.add_comm k m▸ip k m _ h g
theorem pd2 (k d a:Nat) (h:A7r P n ops k i E [(d,c),(a,b)]=some [(d,c),(a,b)]) (g:JD P n X ops (i+k) m K ([(d,c),(a,b)]++E) L Φ):JD P n X ops i (m+k) K E L Φ:=Nat.add_comm k m▸dp k m _ h g
theorem pl2 (k:Nat) (d:List Nat) (e a:Nat) (h:exL P n ops k i d [] E L [(e,c),(a,b)]=some ([(e,c),(a,b)],L,exS P n ops k i d [] E L)) (g:JI P n X ops (i+k) m K Q ([(e,c),(a,b)]++E) L Φ):JI P n X ops i (m+k) K Q E L Φ:=Nat.add_comm k m▸bY k m d _ g h
theorem pg2 (k:Nat) (d:List Nat) (e a:Nat) (h:exL P n ops k i d [] E L [(e,c),(a,b)]=some ([(e,c),(a,b)],L,exS P n ops k i d [] E L)) (g:JD P n X ops (i+k) m K ([(e,c),(a,b)]++E) L Φ) (f:C7o ops k i=true:=by kernel_rfl):JD P n X ops i (m+k) K E L Φ:=Nat.add_comm k m▸zdg k m d _ g h f
theorem pp3 (k f b a:Nat) {e d:Value} (h:A7r P n ops k i E [(f,e),(b,d),(a,c)]=some [(f,e),(b,d),(a,c)]) (g:JI P n X ops (i+k) m K Q ([(f,e),(b,d),(a,c)]++E) L Φ):JI P n X ops i (m+k) K Q E L Φ:=Nat.add_comm k m▸ip k m _ h g
theorem pd3 (k f b a:Nat) {e d:Value} (h:A7r P n ops k i E [(f,e),(b,d),(a,c)]=some [(f,e),(b,d),(a,c)]) (g:JD P n X ops (i+k) m K ([(f,e),(b,d),(a,c)]++E) L Φ):JD P n X ops i (m+k) K E L Φ:=Nat.add_comm k m▸dp k m _ h g
theorem pl3 (k:Nat) (f:List Nat) (j b a:Nat) {e d:Value} (h:exL P n ops k i f [] E L [(j,e),(b,d),(a,c)]=some ([(j,e),(b,d),(a,c)],L,exS P n ops k i f [] E L)) (g:JI P n X ops (i+k) m K Q ([(j,e),(b,d),(a,c)]++E) L Φ):JI P n X ops i (m+k) K Q E L Φ:=Nat.add_comm k m▸bY k m f _ g h
theorem pg3 (k:Nat) (f:List Nat) (j b a:Nat) {e d:Value} (h:exL P n ops k i f [] E L [(j,e),(b,d),(a,c)]=some ([(j,e),(b,d),(a,c)],L,exS P n ops k i f [] E L)) (g:JD P n X ops (i+k) m K ([(j,e),(b,d),(a,c)]++E) L Φ) (l:C7o ops k i=true:=by kernel_rfl):JD P n X ops i (m+k) K E L Φ:=Nat.add_comm k m▸zdg k m f _ g h l
theorem pp4 (k l c a b:Nat) {j f e d:Value} (h:A7r P n ops k i E [(l,j),(c,f),(a,e),(b,d)]=some [(l,j),(c,f),(a,e),(b,d)]) (g:JI P n X ops (i+k) m K Q ([(l,j),(c,f),(a,e),(b,d)]++E) L Φ):JI P n X ops i (m+k) K Q E L Φ:=Nat.add_comm k m▸ip k m _ h g
def po (cs:List Value) (T:Nat) (q:Option Nat):Own:=match q with | none=>[] | some b=>[bx b cs T]
def pv (q:Option Nat):Value:=match q with | none=>.pointer none | some b=>pt b 0
theorem E3h (h:q.isSome=f) (e:f=false):none=q:=by simp_all
theorem E1w (h:q.isSome=f) (e:f=true):∃ b,some b=q:=by subst e;cases q<;>grind
theorem F6h [Decidable p] (h:f=decide p) (e:f=false):¬ p:=by grind
theorem E9h [Decidable p] (h:f=decide p) (e:f=true):p:=by grind
theorem D1i {v:Value} (t:Nat) (c:E.lookup t=some v) (h:JI P n X ops i m K Q ((t,v)::E) L Φ):JI P n X ops i m K Q E L Φ:=fun a w b=>h a w ⟨b.size,b.defers,b.has.val c,b.world⟩
theorem bS {id:Nat} {y:Code} (c:ops.size=m) (h:JI P n X ops 0 m (fun a w=>y.wpIn (FW X.rho) 0 P Q a w) (Exit.then (fun a w=>y.wpIn (FW X.rho) 0 P Q a w) Q) E L Φ):J P n X (.seq (.region id ops false) y) Q E L Φ:=sr m c h
class BP (b:Bool) (p:outParam Prop):Prop where
 iff:b=true ↔ p
instance (priority:=low) (b:Bool):BP b (b=true):=⟨Iff.rfl⟩
instance (p:Prop) [Decidable p]:BP (decide p) p:=⟨decide_eq_true_iff⟩
instance (a b:Bool) (p q:Prop) [BP a p] [BP b q]:BP (a&&b) (p∧q):=⟨by simp[BP.iff]⟩
instance (a b:Bool) (p q:Prop) [BP a p] [BP b q]:BP (a||b) (p∨q):=⟨by simp[BP.iff]⟩
instance (a:Bool) (p:Prop) [BP a p]:BP (!a) (¬ p):=⟨by rw [Bool.not_eq_true',← BP.iff (b:=a),Bool.not_eq_true]⟩
class BR (c:Bool) (p:Prop) (r:outParam Prop):Prop where
 iff:(c=true→(r ↔ p))∧(c=false→(r ↔ ¬ p))
theorem ozw (h:p:=by decide):p:=h
instance (p:Prop):BR true p p:=⟨⟨fun _=>Iff.rfl,fun h=>absurd h ozw⟩⟩
instance (p:Prop):BR false p (¬ p):=⟨⟨fun h=>absurd h ozw,fun _=>Iff.rfl⟩⟩
theorem bV {b c:Bool} {r:Prop} (h:b=c) [BP b p] [BR c p r]:r:=by grind[BR.iff,BP.iff]
end
end
section
section
variable {Φ:List Pers} {α:Type} {c:α→List Value} {rs ys:List Rwq} {xss yss:List (Rwc α)}
theorem W0.copy (h:W0 rs xss) (k:W0 ys yss) (l:Nat):W0 (rs.take l++(ys.take (rs.length - l)++rs.drop (l+min ys.length (rs.length - l)))) (xss.take l++(yss.take (xss.length - l)++xss.drop (l+min yss.length (xss.length - l)))):=by
 rw [h.1,k.1];exact W0.append (W0.take h l) (W0.append (W0.take k _) (W0.drop h _))
end
end
section
section
variable {P:Program} {n:Nat} {X:Cx} {K:Act→World→Prop} {Q:Exit→Act→World→Prop} {E E':cA} {L L':Own} {Φ Φ':List Pers}
end
end
section
variable {α:Type} {a:Array Bool} {b:A2q} {cs:List Own} {e f i:Value} {id:Nat} {j:Value} {js:List Nat} {k l m:Value} {o:Oper} {ops:Array Oper} {v:Value} {val:α→Value} {y:Code}
def pko (cs:List Own) (a:List Nat):Own:=(a.map fun j=>cs.getD j []).flatten
def hdc (cs:List Own) (a:List (Nat×List Nat)):A2q:=a.map fun p=>(p.1,pko cs p.2)
def A7x (l:Array Bool):Nat:=l.toList.countP (!·)
def A3s (l:Array Bool):List Nat→Array Bool
 | []=>l
 | i::is=>A3s (l.setIfInBounds i true) is
def Chk (L:Own) (cs:List Own):Prop:=cs.flatten=L
theorem ch0:Chk [] []:=rfl
theorem ch1 {e:Nat×Obj} {L:Own} (h:Chk L cs):Chk (e::L) ([e]::cs):=by grind[Chk]
theorem ch2 {v L:Own} (h:Chk L cs):Chk (v++L) (v::cs):=by grind[Chk]
theorem ch3 {v:Own}:Chk v [v]:=by simp[Chk]
def D5l (m:Nat):Nat→List Nat→Bool
 | _,[]=>true
 | k,j::js=>Nat.ble k j&&Nat.blt j m&&D5l m (j+1) js
theorem C8f:∀ (cs:List Own) (b:List Nat) (k:Nat),D5l (k+cs.length) k b=true→((b.map fun j=>cs.getD (j - k) []).flatten).Sublist cs.flatten
 | cs,[],k,_=>by simp
 | [],j::b,k,h=>by
  simp
 | c::cs,j::b,k,h=>by
  simp only [D5l,List.length_cons,Bool.and_eq_true,Nat.ble_eq,Nat.blt_eq] at h
  obtain ⟨⟨p,o⟩,g⟩:=h
  by_cases e:j=k
  ·subst e
   have:=C8f cs b (j+1) (by rw [show j+1+cs.length=j+(cs.length+1) by omega];exact g)
   have n:(b.map fun i=>(c::cs).getD (i - j) [])=b.map fun i=>cs.getD (i - (j+1)) []:=by
    refine List.map_congr_left fun i a=>?_
    have:j+1≤i:=by
     clear this p o
     revert g
     generalize j+1=q
     intro g
     have d:∀ (l:List Nat) (q m:Nat),D5l m q l=true→∀ i ∈ l,q≤i:=by
      intro l
      induction l with
      | nil=>intro q m _ i a;cases a
      | cons x xs ih =>
       intro q m f i a
       simp only [D5l,Bool.and_eq_true,Nat.ble_eq] at f
       rcases List.mem_cons.1 a with rfl | a
       ·exact f.1.1
       ·have:=ih (x+1) m f.2 i a;omega
     exact d _ _ _ g i a
    rw [show i - j=(i - (j+1))+1 by omega];rfl
   simp only [List.map_cons,List.flatten_cons,Nat.sub_self,List.getD_cons_zero]
   rw [n]
   exact (List.Sublist.refl c).append this
  ·have:=C8f cs (j::b) (k+1) (by
    simp only [D5l,Bool.and_eq_true,Nat.ble_eq,Nat.blt_eq]
    exact ⟨⟨by omega,by omega⟩,by rw [show k+1+cs.length=k+(cs.length+1) by omega];exact g⟩)
   have n:((j::b).map fun i=>(c::cs).getD (i - k) [])=(j::b).map fun i=>cs.getD (i - (k+1)) []:=by
    refine List.map_congr_left fun i a=>?_
    have:k+1≤i:=by
     rcases List.mem_cons.1 a with rfl | a
     ·omega
     ·have d:∀ (l:List Nat) (q m:Nat),D5l m q l=true→∀ i ∈ l,q≤i:=by
       intro l
       induction l with
       | nil=>intro q m _ i a;cases a
       | cons x xs ih =>
        intro q m f i a
        simp only [D5l,Bool.and_eq_true,Nat.ble_eq] at f
        rcases List.mem_cons.1 a with rfl | a
        ·exact f.1.1
        ·have:=ih (x+1) m f.2 i a;omega
      have:=d _ _ _ g i a;omega
    rw [show i - k=(i - (k+1))+1 by omega];rfl
   rw [n,List.flatten_cons]
   exact this.trans (List.sublist_append_right c _)
def E5f (P:Program) (n:Nat) (ops:Array Oper):List Nat→cA→Option cA
 | [],E=>some E
 | i::is,E=>match ops[i]? with
  | some o=>match B3p ops o E with
   | some true=>match B7e P E o.op with
    | some v=>E5f P n ops is (cA.put E o.dst v)
    | none=>none
   | some false=>E5f P n ops is (cA.put E o.dst undef)
   | none=>none
  | none=>none
def E0m (R:Option cA) (a:cA):Option cA:=match R with
 | some R=>C5r R a
 | none=>none
section
variable {P:Program} {n:Nat} {X:Cx} {K:Act→World→Prop} {Q:Exit→Act→World→Prop} {E E':cA} {L L':Own} {Φ Φ' Φs:List Pers}
abbrev JG (P:Program) (n:Nat) (X:Cx) (ops:Array Oper) (a:Array Bool) (K:Act→World→Prop) (b:A2q) (Φs:List Pers) (E:cA) (L:Own) (Φ:List Pers):Prop:=JH P n X ops (A7x a) a K b Φs E L Φ
def E9n (a:List (Nat×List Nat)) (l:Array Bool):List Nat:=((a.filter fun p=>!(l.getD p.1 false)).map (·.2)).flatten
def G4e (a:List (Nat×List Nat)) (ops:Array Oper) (i:Nat):List Nat:=((a.filter fun p=>D0r ops i p.1||!(Nat.blt p.1 ops.size)).map (·.2)).flatten
theorem F8t (cs:List Own) (a b:List Nat):pko cs (a++b)=pko cs a++pko cs b:=by simp[pko]
theorem G0l (cs:List Own) (g:Nat→Bool):∀ a:List (Nat×List Nat),(((hdc cs a).filter fun p=>g p.1).map (·.2)).flatten=pko cs (((a.filter fun p=>g p.1).map (·.2)).flatten)
 | []=>rfl
 | p::a=>by
  have b:=G0l cs g a
  unfold hdc at *
  rw [List.map_cons,List.filter_cons,List.filter_cons]
  cases g p.1 with
  | false=>exact b
  | true=>simp only [if_true,List.map_cons,List.flatten_cons];rw [b,F8t]
theorem hat {a:List (Nat×List Nat)} {l:Array Bool} (h:E9n a l=js):(hdc cs a).at l=pko cs js:=by rw [← h];exact G0l cs (fun k=>!(l.getD k false)) a
theorem hof {a:List (Nat×List Nat)} {i:Nat} (h:G4e a ops i=js):(hdc cs a).of ops i=pko cs js:=by rw [← h];exact G0l cs (fun k=>D0r ops i k||!(Nat.blt k ops.size)) a
theorem F1d (cs:List Own) (a:List (Nat×List Nat)) (l:Array Bool) (h:(a.all fun p=>!(l.getD p.1 false))=true):(hdc cs a).at l=pko cs (a.map (·.2)).flatten:=by
 induction a with
 | nil=>rfl
 | cons p a b =>
  simp only [List.all_cons,Bool.and_eq_true] at h
  have b:=b h.2
  simp_all[A2q.at,hdc,pko]
theorem zS (b:List (Nat×List Nat)) (h:JG P n X ops (Array.replicate ops.size false) (fun a w=>y.wpIn (FW X.rho) 0 P Q a w) (hdc cs b) Φ E L Φ)
  (f:Chk L cs:=by repeat' first|with_reducible exact ch0|with_reducible apply ch1|with_reducible apply ch2|apply ch1|exact ch3) (hr:D5l cs.length 0 (b.map (·.2)).flatten=true:=by kernel_rfl)
  (d:P.follows .mixedOrders=true:=by kernel_rfl) (hb:(A7z ops&&Region.noSelect ops)=true:=by kernel_rfl) (g:A7x (Array.replicate ops.size false)=ops.size:=by kernel_rfl) (e:(b.all fun p=>!((Array.replicate ops.size false).getD p.1 false))=true:=by kernel_rfl):J P n X (.seq (.region id ops true) y) Q E L Φ:=by
 refine sh ops.size (hdc cs b) Φ _ _ d Z hb Z Z ?_ A7.refl (by grind)
 rw [F1d _ _ _ e,← f]
 simpa [pko] using C8f cs (b.map (·.2)).flatten 0 (by grind)
theorem zSn (a:List (Nat×List Nat)) (h:JG P n X ops (Array.replicate ops.size false) (Q .normal) (hdc cs a) Φ E L Φ)
  (e:Chk L cs:=by repeat' first|with_reducible exact ch0|with_reducible apply ch1|with_reducible apply ch2|apply ch1|exact ch3) (hr:D5l cs.length 0 (a.map (·.2)).flatten=true:=by kernel_rfl)
  (c:P.follows .mixedOrders=true:=by kernel_rfl) (hb:(A7z ops&&Region.noSelect ops)=true:=by kernel_rfl) (f:A7x (Array.replicate ops.size false)=ops.size:=by kernel_rfl) (d:(a.all fun p=>!((Array.replicate ops.size false).getD p.1 false))=true:=by kernel_rfl):J P n X (.region id ops true) Q E L Φ:=by
 refine sh' ops.size (hdc cs a) Φ _ _ c Z hb Z Z ?_ A7.refl (by grind)
 rw [F1d _ _ _ d,← e]
 simpa [pko] using C8f cs (a.map (·.2)).flatten 0 (by grind)
theorem gk (i:Nat) (e:ops[i]?=some o) (f:J8 P X o E (b.of ops i) Φs v) (h:JG P n X ops (a.setIfInBounds i true) K b Φs (cA.put E o.dst v) L Φ)
  (g:B3p ops o E=some true:=by rfl) (c:A1m n o.dst=true:=by rfl) (d:B4r ops b a i=true:=by kernel_rfl) (j:A7x a=A7x (a.setIfInBounds i true)+1:=by kernel_rfl):JG P n X ops a K b Φs E L Φ:=by
 show JH P n X ops (A7x a) a K b Φs E L Φ
 rw [j];exact F9t i _ _ e g c d Z Z f h
theorem gl {b:List (Nat×List Nat)} (i:Nat) (js:List Nat) (f:ops[i]?=some o) (g:J8 P X o E (pko cs js) Φs v) (h:JG P n X ops (a.setIfInBounds i true) K (hdc cs b) Φs (cA.put E o.dst v) L Φ)
  (j:B3p ops o E=some true:=by rfl) (d:A1m n o.dst=true:=by rfl) (e:B4r ops (hdc cs b) a i=true:=by kernel_rfl) (c:G4e b ops i=js:=by kernel_rfl) (k:A7x a=A7x (a.setIfInBounds i true)+1:=by kernel_rfl):JG P n X ops a K (hdc cs b) Φs E L Φ:=by
 show JH P n X ops (A7x a) a K (hdc cs b) Φs E L Φ
 rw [k];exact F9t i _ _ f j d e (hof c) Z g h
theorem go {b:List (Nat×List Nat)} (i:Nat) (js:List Nat) {L':α→Own} {Φ':α→List Pers} (e:ops[i]?=some o) (g:Tri P n X o E L Φ α val L' Φ')
  (h:∀ x,JG P n X ops (a.setIfInBounds i true) K (hdc cs b) Φs (cA.put E o.dst (val x)) (L' x) (Φ' x))
  (c:∀ x,(pko cs js).Sublist (L' x):=by
   intro x;(try dsimp only [pko,List.map_cons,List.map_nil,List.getD_cons_zero,List.getD_cons_succ,List.flatten_cons,List.flatten_nil,List.cons_append,List.nil_append,List.append_assoc]);exact bU)
  (hΦ':∀ x,A7 (Φ' x) Φs:=by intro x;exact c9) (j:B3p ops o E=some true:=by rfl) (d:A1m n o.dst=true:=by rfl) (hr:Region.ready .any ops a=[i]:=by kernel_rfl) (f:E9n b (a.setIfInBounds i true)=js:=by kernel_rfl)
  (k:A7x a=A7x (a.setIfInBounds i true)+1:=by kernel_rfl):JG P n X ops a K (hdc cs b) Φs E L Φ:=by
 show JH P n X ops (A7x a) a K (hdc cs b) Φs E L Φ
 rw [k];exact hone i (pko cs js) _ e j d hr Z (hat f) g c hΦ' h
def AG (P:Program) (n:Nat) (X:Cx) (ops:Array Oper) (b:Array Bool) (i:Nat) (K:Act→World→Prop) (c:A2q) (Φs:List Pers) (E:cA) (L:Own) (Φ:List Pers):Prop :=
 ∀ a w,St n X E L Φ a w→A7z ops=true→Region.noSelect ops=true→b.size=ops.size→wpOpIn (FW X.rho) 0 P ops (oN K) i (fun d w'=>((b.setIfInBounds i true).size=ops.size∧cG X (c.at (b.setIfInBounds i true)) Φs w')∧AH X.rho P ops (oN K) (fun l w=>l.size=ops.size∧cG X (c.at l) Φs w) (A7x (b.setIfInBounds i true)) (b.setIfInBounds i true) d w') a w
theorem gf (i k:Nat) (d:AG P n X ops a i K b Φs E L Φ) (c:AG P n X ops a k K b Φs E L Φ) (hr:Region.ready .any ops a=[i,k]:=by kernel_rfl)
  (f:A7x a=A7x (a.setIfInBounds i true)+1:=by kernel_rfl) (e:A7x (a.setIfInBounds k true)=A7x (a.setIfInBounds i true):=by kernel_rfl):JG P n X ops a K b Φs E L Φ:=by
 show JH P n X ops (A7x a) a K b Φs E L Φ
 rw [f]
 refine E4k i k hr d ?_
 simp_all[AG]
theorem gh {c:List (Nat×List Nat)} (i:Nat) (js:List Nat) {L':α→Own} {Φ':α→List Pers} (e:ops[i]?=some o) (g:Tri P n X o E L Φ α val L' Φ')
  (h:∀ x,JG P n X ops (a.setIfInBounds i true) K (hdc cs c) Φs (cA.put E o.dst (val x)) (L' x) (Φ' x))
  (b:∀ x,(pko cs js).Sublist (L' x):=by
   intro x;(try dsimp only [pko,List.map_cons,List.map_nil,List.getD_cons_zero,List.getD_cons_succ,List.flatten_cons,List.flatten_nil,List.cons_append,List.nil_append,List.append_assoc]);exact bU)
  (hΦ':∀ x,A7 (Φ' x) Φs:=by intro x;exact c9) (j:B3p ops o E=some true:=by rfl) (d:A1m n o.dst=true:=by rfl) (f:E9n c (a.setIfInBounds i true)=js:=by kernel_rfl):AG P n X ops a i K (hdc cs c) Φs E L Φ :=
 F4f i (pko cs js) _ e j d Z Z (hat f) g b hΦ' h
theorem hqV (is:List Nat) (c:cA) (g:JG P n X ops (A3s a is) K b Φs (c++E) L Φ) (h:C4d P n ops b is a E c=some (A3s a is,c):=by kernel_rfl) (d:A7x a=is.length+A7x (A3s a is):=by kernel_rfl):JG P n X ops a K b Φs E L Φ:=by grind[G4t]
theorem hq0 (is:List Nat) (g:JG P n X ops (A3s a is) K b Φs E L Φ) (h:C4d P n ops b is a E []=some (A3s a is,[]):=by kernel_rfl) (c:A7x a=is.length+A7x (A3s a is):=by kernel_rfl):JG P n X ops a K b Φs E L Φ:=hqV is [] g h c
theorem hq1 (is:List Nat) (d:Nat) {c:Value} (f:E0m (E5f P n ops is E) [(d,c)]=some [(d,c)]) (g:JG P n X ops (A3s a is) K b Φs ([(d,c)]++E) L Φ) (h:C4d P n ops b is a E [(d,c)]=some (A3s a is,[(d,c)]):=by kernel_rfl) (e:A7x a=is.length+A7x (A3s a is):=by kernel_rfl):JG P n X ops a K b Φs E L Φ:=hqV is _ g h e
theorem hq2 (is:List Nat) (f c:Nat) {d:Value} (j:E0m (E5f P n ops is E) [(f,e),(c,d)]=some [(f,e),(c,d)]) (g:JG P n X ops (A3s a is) K b Φs ([(f,e),(c,d)]++E) L Φ) (h:C4d P n ops b is a E [(f,e),(c,d)]=some (A3s a is,[(f,e),(c,d)]):=by kernel_rfl) (i:A7x a=is.length+A7x (A3s a is):=by kernel_rfl):JG P n X ops a K b Φs E L Φ:=hqV is _ g h i
theorem hq3 (is:List Nat) (j d c:Nat) (l:E0m (E5f P n ops is E) [(j,i),(d,f),(c,e)]=some [(j,i),(d,f),(c,e)]) (g:JG P n X ops (A3s a is) K b Φs ([(j,i),(d,f),(c,e)]++E) L Φ) (h:C4d P n ops b is a E [(j,i),(d,f),(c,e)]=some (A3s a is,[(j,i),(d,f),(c,e)]):=by kernel_rfl) (k:A7x a=is.length+A7x (A3s a is):=by kernel_rfl):JG P n X ops a K b Φs E L Φ:=hqV is _ g h k
theorem hq4 (is:List Nat) (l e c d:Nat) (o:E0m (E5f P n ops is E) [(l,k),(e,j),(c,i),(d,f)]=some [(l,k),(e,j),(c,i),(d,f)]) (g:JG P n X ops (A3s a is) K b Φs ([(l,k),(e,j),(c,i),(d,f)]++E) L Φ) (h:C4d P n ops b is a E [(l,k),(e,j),(c,i),(d,f)]=some (A3s a is,[(l,k),(e,j),(c,i),(d,f)]):=by kernel_rfl) (m:A7x a=is.length+A7x (A3s a is):=by kernel_rfl):JG P n X ops a K b Φs E L Φ:=hqV is _ g h m
theorem hq5 (is:List Nat) (o e c d k:Nat) (q:E0m (E5f P n ops is E) [(o,l),(e,j),(c,i),(d,f),(k,m)]=some [(o,l),(e,j),(c,i),(d,f),(k,m)]) (g:JG P n X ops (A3s a is) K b Φs ([(o,l),(e,j),(c,i),(d,f),(k,m)]++E) L Φ) (h:C4d P n ops b is a E [(o,l),(e,j),(c,i),(d,f),(k,m)]=some (A3s a is,[(o,l),(e,j),(c,i),(d,f),(k,m)]):=by kernel_rfl) (p:A7x a=is.length+A7x (A3s a is):=by kernel_rfl):JG P n X ops a K b Φs E L Φ:=hqV is _ g h p
theorem hq6 (is:List Nat) (q e c d j p:Nat) {o:Value} (s:E0m (E5f P n ops is E) [(q,m),(e,l),(c,i),(d,f),(j,k),(p,o)]=some [(q,m),(e,l),(c,i),(d,f),(j,k),(p,o)]) (g:JG P n X ops (A3s a is) K b Φs ([(q,m),(e,l),(c,i),(d,f),(j,k),(p,o)]++E) L Φ) (h:C4d P n ops b is a E [(q,m),(e,l),(c,i),(d,f),(j,k),(p,o)]=some (A3s a is,[(q,m),(e,l),(c,i),(d,f),(j,k),(p,o)]):=by kernel_rfl) (r:A7x a=is.length+A7x (A3s a is):=by kernel_rfl):JG P n X ops a K b Φs E L Φ:=hqV is _ g h r
theorem gS {d:List (Nat×List Nat)} {c:α→List Value} {T:Nat} {r:VR} {xs:List α} (pre post:Own) (js:List Nat) {sz:Nat} (b:bT sz xs.length r) (hL:L=pre++(vo c T r xs++post))
  (h:JG P n X ops a K (hdc cs d) Φs E (pre++post) (sl c (va r.q) xs::Φ)) (f:E9n d a=js:=by kernel_rfl)
  (e:(pko cs js).Sublist (pre++post):=by
   (try dsimp only [pko,List.map_cons,List.map_nil,List.getD_cons_zero,List.getD_cons_succ,List.flatten_cons,List.flatten_nil,List.cons_append,List.nil_append,List.append_assoc]);exact bU):JG P n X ops a K (hdc cs d) Φs E L Φ:=by grind[F0u,hat]
theorem ge {b:Array Bool} {c:A2q} (h:J P n X y Q E L Φ) (hr:Region.ready .any ops b=[]:=by kernel_rfl):JG P n X ops b (fun a w=>y.wpIn (FW X.rho) 0 P Q a w) c Φs E L Φ:=D6r hr h
theorem gdn (h:JQ n X K E L Φ) (hr:Region.ready .any ops a=[]:=by kernel_rfl):JG P n X ops a K b Φs E L Φ:=C5e hr h
end
end
section
variable {L0:Own} {α:Type} {L1:α→Own} {L2:Own} {L3:α→Own} {a:Array Bool} {args:List Value} {cs:List Own} {d:Option Nat} {e:Nat×Obj} {f:List (Nat×List Nat)} {i j:Nat} {k:FuncId} {m:Nat} {ops:Array Oper} {val:α→Value} {x:Nat×Obj} {Φ0:List Pers} {Φ1 Φ3:α→List Pers}
section
variable {P:Program} {n:Nat} {X:Cx} {K:Act→World→Prop} {Q:Exit→Act→World→Prop} {E E':cA} {L L':Own} {Φ Φ' Φs:List Pers}
theorem pk_ {L:Own} (h:PkP L L0 L2:=by repeat' first|with_reducible exact pk0|with_reducible apply pkc|with_reducible apply pkv|with_reducible exact re0|with_reducible exact rv0|with_reducible apply re1|with_reducible apply re2|with_reducible apply rv1|with_reducible apply rv2):PkP L L0 L2:=h
theorem G5r {M L:Own} (h:SrP M L:=by
   refine sr4 ond ?_
   repeat' first|with_reducible exact sr0|with_reducible apply sr1|with_reducible apply sr2|with_reducible apply in1|with_reducible exact in0|exact sr3):SrP M L:=h
theorem G0q {a:List Nat} {L:Own} (h:(pko cs a).Sublist L:=by
   (try dsimp only [pko,List.map_cons,List.map_nil,List.getD_cons_zero,List.getD_cons_succ,List.flatten_cons,List.flatten_nil,List.cons_append,List.nil_append,List.append_assoc]);exact bU):(pko cs a).Sublist L:=h
theorem ph_ {Φ1 Φ Φ3:List Pers} (h:Φ1++Φ=Φ3:=by first|exact List.nil_append _|(simp only [List.nil_append,List.cons_append];exact Z)|exact Z):Φ1++Φ=Φ3:=h
theorem gc {g:List (Nat×List Nat)} (i:Nat) (js:List Nat)
  (m:D2h n ops i E=some (k,args,d)) (b:cM P k args L0 Φ0 α val L1 Φ1) (h:∀ x,JG P n X ops (a.setIfInBounds i true) K (hdc cs g) Φs (cA.put E d (val x)) (L3 x) (Φ3 x))
  (hL:PkP L L0 L2:=by exact pk_) (e:∀ x,SrP (L1 x++L2) (L3 x):=by intro _;exact G5r) (hΦ:A7 Φ Φ0:=by exact c9) (hΦ3:∀ x,Φ1 x++Φ=Φ3 x:=by intro _;exact ph_)
  (j:∀ x,(pko cs js).Sublist (L3 x):=by intro _;exact G0q) (hΦ':∀ x,A7 (Φ3 x) Φs:=by intro _;exact c9) (hr:Region.ready .any ops a=[i]:=by kernel_rfl) (s:E9n g (a.setIfInBounds i true)=js:=by kernel_rfl)
  (u:A7x a=A7x (a.setIfInBounds i true)+1:=by kernel_rfl):JG P n X ops a K (hdc cs g) Φs E L Φ:=by
 obtain ⟨o,c,v,first,cap,vs,f,q,l,t,p,r,rfl⟩:=B4c m
 obtain rfl:(fun x=>Φ1 x++Φ)=Φ3:=funext hΦ3
 exact go i js (Q4 f).1 (N9 b q l t p r hΦ hL L3 e) h j hΦ' (Q4 f).2.1 (Q4 f).2.2 hr s u
theorem ghc (i:Nat) (js:List Nat)
  (p:D2h n ops i E=some (k,args,d)) (b:cM P k args L0 Φ0 α val L1 Φ1) (h:∀ x,JG P n X ops (a.setIfInBounds i true) K (hdc cs f) Φs (cA.put E d (val x)) (L3 x) (Φ3 x))
  (hL:PkP L L0 L2:=by exact pk_) (j:∀ x,SrP (L1 x++L2) (L3 x):=by intro _;exact G5r) (hΦ:A7 Φ Φ0:=by exact c9) (hΦ3:∀ x,Φ1 x++Φ=Φ3 x:=by intro _;exact ph_)
  (g:∀ x,(pko cs js).Sublist (L3 x):=by intro _;exact G0q) (hΦ':∀ x,A7 (Φ3 x) Φs:=by intro _;exact c9) (l:E9n f (a.setIfInBounds i true)=js:=by kernel_rfl):AG P n X ops a i K (hdc cs f) Φs E L Φ:=by
 obtain ⟨o,c,u,first,cap,vs,e,s,m,q,r,t,rfl⟩:=B4c p
 obtain rfl:(fun x=>Φ1 x++Φ)=Φ3:=funext hΦ3
 exact gh i js (Q4 e).1 (N9 b s m q r t hΦ hL L3 j) h g hΦ' (Q4 e).2.1 (Q4 e).2.2 l
theorem gv (i:Nat) (js:List Nat) {v:Value} (m:D2h n ops i E=some (k,args,d)) (b:J7 P k args Φ0 v)
  (h:JG P n X ops (a.setIfInBounds i true) K (hdc cs f) Φs (cA.put E d v) L Φ) (hΦ:A7 Φ Φ0:=by exact c9) (g:(pko cs js).Sublist L:=by exact G0q) (hΦ':A7 Φ Φs:=by exact c9) (hr:Region.ready .any ops a=[i]:=by kernel_rfl) (j:E9n f (a.setIfInBounds i true)=js:=by kernel_rfl)
  (t:A7x a=A7x (a.setIfInBounds i true)+1:=by kernel_rfl):JG P n X ops a K (hdc cs f) Φs E L Φ:=by
 obtain ⟨o,c,u,first,cap,vs,e,r,l,p,q,s,rfl⟩:=B4c m
 exact go i js (Q4 e).1 (Det.tri (B7j b r l p q s hΦ)) (fun _=>h) (fun _=>g) (fun _=>hΦ') (Q4 e).2.1 (Q4 e).2.2 hr j t
def Upd (L:Own) (j:Nat) (e:Nat×Obj) (L':Own):Prop:=L.set j e=L'
theorem up0:Upd (x::L) 0 e (e::L):=rfl
theorem up1 (h:Upd L j e L'):Upd (x::L) (j+1) e (x::L'):=by grind[Upd]
theorem G6k {L L':Own} (h:Upd L j e L':=by repeat' first|with_reducible exact up0|with_reducible apply up1|exact up0|apply up1):Upd L j e L':=h
theorem cI (k:Nat) (d:List Nat) (a:Nat→cA) (c:Nat→List Value) (T:Nat) (g:∀ b,JI P n X ops (i+k) m K Q (a b++E) (bx b (c b) T::L) Φ) (h:∀ b,exL P n ops k i d [b] E L (a b)=some (a b,bx b (c b) T::L,exS P n ops k i d [b] E L):=by intros;kernel_rfl):JI P n X ops i (m+k) K Q E L Φ :=
 Nat.add_comm k m▸D7x k m d a _ g h
theorem B3r (k:Nat) (f:List Nat) (a:Nat→Nat→cA) (c d:Nat→Nat→List Value) (T U:Nat) (g:∀ b e,JI P n X ops (i+k) m K Q (a b e++E) (bx e (d b e) U::bx b (c b e) T::L) Φ) (h:∀ b e,exL P n ops k i f [b,e] E L (a b e)=some (a b e,bx e (d b e) U::bx b (c b e) T::L,exS P n ops k i f [b,e] E L):=by intros;kernel_rfl):JI P n X ops i (m+k) K Q E L Φ :=
 Nat.add_comm k m▸F8l k m f a _ g h
theorem zru (k:Nat) (b:List Nat) (a:cA) (j:Nat) (e:Nat×Obj) {L':Own} (g:JI P n X ops (i+k) m K Q (a++E) L' Φ) (c:Upd L j e L':=by exact G6k) (h:exL P n ops k i b [] E L a=some (a,L',exS P n ops k i b [] E L):=by kernel_rfl):JI P n X ops i (m+k) K Q E L Φ :=
 Nat.add_comm k m▸zrg k m b a L' g h
end
end
section
section
variable {ρ:Option Nat} {P:Program} {ops:Array Oper}
end
section
variable {P:Program} {n:Nat} {X:Cx} {K:Act→World→Prop} {Q:Exit→Act→World→Prop} {E E':cA} {L L' Ls:Own} {Φ Φ' Φs:List Pers}
end
section
variable {P:Program} {X:Cx} {E:cA} {L:Own} {Φ:List Pers}
end
end
section
variable {T cc e k m:Nat} {o:Oper} {post pre:Own} {sz:Nat} {y:Operand}
structure RwX (τ:Type) where
 s:Slc
 b:τ
structure RwD (τ α:Type) where
 l:List α
 b:τ
def A0d {τ:Type} (a:τ→List Value) (r:RwX τ):List Value:=.slice r.s.q r.s.n r.s.k::a r.b
abbrev zwx {τ:Type} (z:τ):RwX τ:=⟨⟨none,0,0⟩,z⟩
abbrev zwd {τ α:Type} (z:τ):RwD τ α:=⟨[],z⟩
def A8z {τ α:Type} (c:α→List Value) (rs:List (RwX τ)) (xss:List (RwD τ α)):Pers:=D8 c (rs.map RwX.s) (xss.map RwD.l)
def A2u {τ α:Type} (rs:List (RwX τ)) (xss:List (RwD τ α)):Prop:=rs.length=xss.length∧B4 (rs.map RwX.s) (xss.map RwD.l)∧rs.map RwX.b=xss.map RwD.b
section
variable {P:Program} {n:Nat} {X:Cx} {K:Act→World→Prop} {Q:Exit→Act→World→Prop} {E E':cA} {L L':Own} {Φ Φ':List Pers} {τ α:Type} {c:α→List Value} {rs rs':List (RwX τ)} {xss xss':List (RwD τ α)}
theorem F6x (ok:A2u rs xss) {z:τ} (h:k<rs.length):(xss.getD k (zwd z)).l.length≤(rs.getD k (zwx z)).s.k∧(xss.getD k (zwd z)).l.length≤9223372036854775807:=by
 have:=Q9 ok.2.1 (k:=k) (d:=(⟨none,0,0⟩:Slc)) (by grind)
 grind
theorem x_n (ok:A2u rs xss) {z:τ} (h:k<rs.length):(rs.getD k (zwx z)).s.n=(xss.getD k (zwd z)).l.length:=by
 have:=M2 ok.2.1 (k:=k) (d:=(⟨none,0,0⟩:Slc)) (by grind)
 grind
theorem x_b (ok:A2u rs xss) (k:Nat) (z:τ):(rs.getD k (zwx z)).b=(xss.getD k (zwd z)).b:=by
 rw [← A3z RwX.b,← A3z RwD.b,ok.2.2]
theorem D7l (ok:A2u rs xss) {z:τ} (h:k<rs.length) (F:Nat→τ→Value):F (rs.getD k (zwx z)).s.n (rs.getD k (zwx z)).b=F (xss.getD k (zwd z)).l.length (xss.getD k (zwd z)).b:=by grind[x_n,x_b]
theorem G1l (ok:A2u rs xss) (j:Nat) (a:Φ[j]?=some (A8z c rs xss)) {z:τ} (h:k<rs.length):V5 Φ (sl c (rs.getD k (zwx z)).s.q (xss.getD k (zwd z)).l):=by
 have:=Q6 ok.2.1 j a (k:=k) (d:=(⟨none,0,0⟩:Slc)) (by grind)
 grind
theorem E2u:V5 Φ (A8z c ([]:List (RwX τ)) []):=I5
theorem E2c {r:RwX τ} {x:RwD τ α} (a:V5 Φ (sl c r.s.q x.l)) (b:V5 Φ (A8z c rs xss)):V5 Φ (A8z c (r::rs) (x::xss)):=M8 a b
theorem F6j (b:rs.length=xss.length) (a:V5 Φ (A8z c rs xss)) (d:V5 Φ (A8z c rs' xss')):V5 Φ (A8z c (rs++rs') (xss++xss')):=by grind[A8z,D1o]
theorem A2u.none:A2u ([]:List (RwX τ)) ([]:List (RwD τ α)):=⟨rfl,B4.none,rfl⟩
theorem A2u.cons {r:RwX τ} {x:RwD τ α} (c:r.s.n=x.l.length∧r.s.n≤r.s.k∧x.l.length≤9223372036854775807) (hb:r.b=x.b) (a:A2u rs xss):A2u (r::rs) (x::xss):=⟨by simp [a.1],B4.cons c a.2.1,by simp [hb,a.2.2]⟩
theorem A2u.append (a:A2u rs xss) (b:A2u rs' xss'):A2u (rs++rs') (xss++xss'):=⟨by simp [a.1,b.1],by rw [List.map_append,List.map_append];exact B4.append a.2.1 b.2.1,by rw [List.map_append,List.map_append,a.2.2,b.2.2]⟩
theorem D0q {b:τ→List Value} {h:Call} {d:Nat} {x:Operand} {r:VR} {rs ys:List (RwX τ)} {xss yss:List (RwD τ α)} {q:Option Addr} {kk:Nat} (hT:ApTy P T e sz d) (hf:∀ x,(A0d b x).length=sz) (a0:∀ x,(A0d b x).all (·.oneCell')=true)
  (ho:o.op=.call h) (hc:h.callee=.builtin .append) (i:h.args=#[x,y]) (l:h.argTypes=#[T,T]) (hx:ev E x=some (vv r k)) (hk:k=xss.length) (hy:ev E y=some (.slice q m kk)) (hm:m=yss.length) (hL:L=pre++(vo (A0d b) e r rs++post))
  (hq:V5 Φ (sl (A0d b) q ys)) (h1:V5 Φ (A8z c rs xss)) (h2:V5 Φ (A8z c ys yss)) (u:A2u rs xss) (j:A2u ys yss) (v:bT sz xss.length r) (hb:(xss.length+yss.length) * d≤140737488355328) (ak:xss.length+yss.length≤9223372036854775807) :
  Tri P n X o E L Φ {a:VR // bT sz (xss++yss).length a} (fun a=>vv a.1 (xss++yss).length) (fun a=>pre++(vo (A0d b) e a.1 (rs++ys)++post)) (fun _=>A8z c (rs++ys) (xss++yss)::Φ):=by
 have g:=u.1
 have e2:=j.1
 have e3:(rs++ys).length=(xss++yss).length:=by grind
 intro ac w K Q hs hK
 refine Y6 (f:=A0d b) (xs:=rs) (ys:=ys) hT hf a0 ho hc i l (by grind) hy opx hL hq (by grind) (by grind) opx ac w K Q hs fun a w' hw=>?_
 have:=hK ⟨a.1,e3▸a.2⟩ w' (by
  obtain ⟨p,t⟩:=hw
  exact ⟨p,{t with facts:=fun z s=>by rcases List.mem_cons.1 s with rfl | s;exact F6j g h1 h2 p t.facts;exact t.facts z s}⟩)
 grind
theorem D3x {o ty:Nat} (hT:ApTy P T e sz o) {α:Type} {f:α→List Value} (hf:∀ x,(f x).length=sz) (au:∀ x,(f x).all (·.oneCell')=true) {r:VR} {xs ys:List α} {w:World} {a:Addr} (hm:m=ys.length)
  (hw:cG X (pre++(vo f e r xs++post)) Φ w) (hq:∀ j u,(ys.flatMap f)[j]?=some u→w.cell? (a.add j)=some u) (ap:bT sz xs.length r) (hb:(xs.length+ys.length) * o≤140737488355328) (ah:xs.length+ys.length≤maxLen) :
  ∃ r' w',(Builtin.append_ #[T,T] ty #[vv r xs.length,.slice (some a) m cc]).run P w=.ok (vv r' (xs.length+ys.length)) w'∧bT sz (xs.length+ys.length) r'∧cG X (pre++(vo f e r' (xs++ys)++post)) Φ w':=by
 obtain ⟨i,hi,d⟩:=Option.map_eq_some_iff.1 hT.info
 simp only [Prod.mk.injEq] at d
 obtain ⟨h4,h5,h6⟩:=d
 obtain ⟨z,hz,h6⟩:=Option.map_eq_some_iff.1 h6
 have y:0<sz:=by simpa [Nat.blt_eq] using hT.pos
 have t:=F1k hT hf hw ap
 obtain ⟨v',w',h,c,v,a1,s⟩:=run_append_own_at (P:=P) w 0 T ty e i z sz o hT.ty hi hz h4 h5 h6 y (vv r xs.length) xs.length (xs.flatMap f) t a m cc (ys.flatMap f)
  (by grind[G8]) hq (B8z au ys) (by omega) (by grind) (Nat.zero_le _)
 rw [hm] at c a1
 have b:(vo f e r xs).map Prod.fst=r.q.toList:=by grind[vo]
 have l:(vv r xs.length).ownBlock=r.q:=by unfold vv va Value.ownBlock;grind
 have hk:KeptBut ((vo f e r xs).map Prod.fst) w w':=⟨v.os,v.tape,v.output,v.size,fun k hk a9=>v.block k hk (fun e'=>a9 (by grind))⟩
 obtain ⟨av,an⟩:=c
 rcases an with ⟨rfl,a2⟩ | ⟨g,cap,cur,rfl,_,n,a3,a0,am,p⟩
 ·refine ⟨VR.nil,w',?_,?_,?_⟩
  ·rw [h,a2];rfl
  ·grind[bT.nil]
  ·exact cG.turn hw hk (by intro e he;cases he) List.nodup_nil
 ·refine ⟨⟨some g,cap,cur.toList.drop ((xs.length+ys.length) * sz)⟩,w',?_,?_,?_⟩
  ·rw [h];rfl
  ·refine ⟨?_,a3,a0⟩
   grind
  ·refine cG.turn hw hk (L1:=[bx g ((xs++ys).flatMap f++cur.toList.drop ((xs.length+ys.length) * sz)) e]) ?_ oom
   intro e' he
   obtain rfl:e'=_:=by simpa using he
   refine ⟨?_,?_⟩
   ·simp only
    rw [n,← List.append_assoc,← p,List.take_append_drop]
   ·rcases s with h1 | h1
    ·refine .inl ?_
     rw [b]
     rw [l] at h1
     rw [← h1];simp [Value.ownBlock]
    ·simp [Value.ownBlock] at h1
     exact .inr (by simp only;omega)
theorem F5f {c:Call} {t:Nat} {x:Operand} {α:Type} {f:α→List Value} {r s:VR} {xs ys:List α} (hT:ApTy P T e sz t) (hf:∀ x,(f x).length=sz) (a1:∀ x,(f x).all (·.oneCell')=true)
  (ho:o.op=.call c) (hc:c.callee=.builtin .append) (h:c.args=#[x,y]) (k:c.argTypes=#[T,T]) (hx:ev E x=some (vv r xs.length)) (hy:ev E y=some (.slice (va s.q) m cc)) (hm:m=ys.length) (hL:L=pre++(vo f e r xs++post))
  (a4:∀ z ∈ vo f e s ys,z ∈ L) (a:bT sz ys.length s) (a0:bT sz xs.length r) (hb:(xs.length+ys.length) * t≤140737488355328) (l:xs.length+ys.length≤9223372036854775807) :
  Tri P n X o E L Φ {d:VR // bT sz (xs++ys).length d} (fun d=>vv d.1 (xs++ys).length) (fun d=>pre++(vo f e d.1 (xs++ys)++post)) (fun _=>Φ):=by
 cases hs0:s.q with
 | none =>
  have hn:V5 Φ (sl f none ys):=fun p hp=>by
   unfold bT at a
   rw [hs0] at a
   exact List.length_eq_zero_iff.1 a.1
  exact Y6 hT hf a1 ho hc h k hx (by rw [hy,hs0];rfl) hm hL hn a0 hb l
 | some b =>
  rw [List.length_append]
  intro ac w K Q hs hk
  have hw:=hs.world
  have g:∀ j u,(ys.flatMap f)[j]?=some u→w.cell? (Addr.add ⟨b,0,none⟩ j)=some u:=fun j u hj=>by
   obtain ⟨p,hp⟩:=hw
   have h1:=(hp.own.1 _ (a4 (bx b (ys.flatMap f++s.j) e) (by grind[vo]))).1
   have a3:=(List.getElem?_eq_some_iff.1 hj).1
   simp_all[A3j,World.cell?,List.getElem?_append_left]
  rw [hL] at hw
  obtain ⟨d,w',v,i,a2⟩:=D3x (ty:=o.type) hT hf a1 (cc:=cc) hm hw g a0 hb l
  refine B0w (by rw [ho];rfl) ?_
  unfold Oper.wp
  have a8:ev E y=some (.slice (some ⟨b,0,none⟩) m cc):=by rw [hy,hs0];rfl
  rw [show (execOp ac.eval o).run P w=.ok (.value (vv d (xs.length+ys.length))) w' by
   simp [execOp,ho,resolve,hc,h,k,D5 hs.has hx,D5 hs.has a8,invoke,builtin,v]]
  exact hk ⟨d,i⟩ w' a2
end
end
section
section
variable {P:Program} {n:Nat} {X:Cx} {K:Act→World→Prop} {Q:Exit→Act→World→Prop} {E E':cA} {L L':Own} {Φ Φ':List Pers}
def pX (P:Program) (E:cA):Op→Option Value
 | .binOp .add _ _ _ _=>none
 | .binOp .sub _ _ _ _=>none
 | .binOp .mul _ _ _ _=>none
 | op=>B7e P E op
theorem pXe {op:Op} {v:Value} (h:pX P E op=some v):B7e P E op=some v:=by
 unfold pX at h;split at h<;>first|exact h|cases h
def stp (P:Program) (n:Nat) (ops:Array Oper) (i:Nat) (E:cA):Option (Nat×Value):=
 match ops[i]? with
 | some o=>match B3p ops o E,o.dst with
  | some true,some d=>match Nat.blt d n,pX P E o.op with
   | true,some v=>some (d,v)
   | _,_=>none
  | some false,some d=>match Nat.blt d n with
   | true=>some (d,undef)
   | _=>none
  | _,_=>none
 | none=>none
theorem stp_ {ops:Array Oper} {i d:Nat} {v:Value} (h:stp P n ops i E=some (d,v)):∃ R,B1g P n ops 1 i E=some R∧R=(d,v)::E:=by
 unfold stp at h
 unfold B1g B1g
 split at h
 next o ho=>
  split at h
  next d' a b=>
   split at h
   next v' c e=>
    simp only [Option.some.injEq,Prod.mk.injEq] at h
    obtain ⟨rfl,rfl⟩:=h
    simp [B7t,a,b,c,A1m,ho,pXe e,cA.put]
   next=>cases h
  next d' a b=>
   split at h
   next c=>
    simp only [Option.some.injEq,Prod.mk.injEq] at h
    obtain ⟨rfl,rfl⟩:=h
    simp [B7t,a,b,c,A1m,ho,cA.put]
   next=>cases h
  next=>cases h
 next=>cases h
theorem wo {ops:Array Oper} {i m d:Nat} {v:Value} (a:stp P n ops i E=some (d,v)) (g:JI P n X ops (i+1) m K Q ((d,v)::E) L Φ):JI P n X ops i (m+1) K Q E L Φ:=by
 obtain ⟨R,h,rfl⟩:=stp_ a
 exact Nat.add_comm 1 m▸F5u 1 i h g
theorem wd {ops:Array Oper} {i m d:Nat} {v:Value} (a:stp P n ops i E=some (d,v)) (g:JD P n X ops (i+1) m K ((d,v)::E) L Φ):JD P n X ops i (m+1) K E L Φ:=by
 obtain ⟨R,h,rfl⟩:=stp_ a
 exact Nat.add_comm 1 m▸F4b 1 i h g
theorem wi {ops:Array Oper} {i m:Nat} {o:Oper} {d:Nat} {v:Value} (a:C7f n ops i E=some o) (c:o.dst=some d) (b:J8 P X o E L Φ v) (g:JI P n X ops (i+1) m K Q ((d,v)::E) L Φ):JI P n X ops i (m+1) K Q E L Φ:=ix a b (by rw [c];exact g)
theorem jq (h:JQ n X K E L Φ):JQ n X K E L Φ:=h
theorem kc_ {p q:Prop} (g:q) (h:q→p:=by
 intro h
 repeat first
  |with_reducible refine bS Z ?_
  |with_reducible refine ie ?_
  |with_reducible refine A9 ?_
  |with_reducible refine A3 ?_
  |with_reducible refine A0 _ Z ?_
  |with_reducible refine A4 ?_
  |with_reducible refine A1 ?_
  |with_reducible refine F1 ?_
  |with_reducible refine A8 ?_
  |with_reducible refine de ?_
  |with_reducible refine E9 ?_
  |((with_reducible refine jq ?_);refine nx ?_)
  |refine K1 Z ?_
  |refine A5t Z ?_
  |with_reducible refine sd _ Z oki Z ?_
 exact h):p:=h g
theorem k_ {p q:Prop} (g:q) (h:q→p:=by
 intro h
 repeat first
  |with_reducible refine bS Z ?_
  |with_reducible refine ie ?_
  |with_reducible refine A9 ?_
  |with_reducible refine A3 ?_
  |with_reducible refine A0 _ Z ?_
  |with_reducible refine A4 ?_
  |with_reducible refine A1 ?_
  |with_reducible refine F1 ?_
  |with_reducible refine A8 ?_
  |with_reducible refine de ?_
  |refine wo Z ?_
  |refine wd Z ?_
  |with_reducible refine E9 ?_
  |((with_reducible refine jq ?_);refine nx ?_)
  |refine K1 Z ?_
  |refine A5t Z ?_
  |with_reducible refine sd _ Z oki Z ?_
  |refine wi Z Z (B1 Z Z Z (by simp only [Int.reduceAdd];exact Z) ozw) ?_
  |refine wi Z Z (B8 ⟨by rfl⟩ Z Z 0 Z Z) ?_
  |refine wi Z Z (B8 ⟨by rfl⟩ Z Z 1 Z Z) ?_
  |refine wi Z Z (B8 ⟨by rfl⟩ Z Z 2 Z Z) ?_
  |refine wi Z Z (B8 ⟨by rfl⟩ Z Z 3 Z Z) ?_
 exact h):p:=h g
theorem q8 {p:Prop} (h:p:=by refine ie (A8 ?_);exact F7 hr hD):p:=h
section
variable {α:Type} {val:α→Value} {L1:α→Own} {Φ1:α→List Pers} {v:Value} {a:Func}
theorem cc (hr:Res P n X a E L Φ v) (x:α) (c:X.rho=none:=by assumption) (hD:X.D=[]:=by assumption) (hL:List.Sublist (L1 x) L:=by exact bU) (hΦ:A7 Φ (Φ1 x):=by exact c9) (b:val x=v:=by rfl):JQ n X (E2z P X a α val L1 Φ1 .ret) E L Φ:=cC c hD hr x hL hΦ b
theorem ci {t:Nat} (x:α) (c:X.rho=none:=by assumption) (hD:X.D=[]:=by assumption) (d:a.results=#[.tmp t]:=by exact Z) (e:E.lookup t=some v:=by exact Z) (hL:List.Sublist (L1 x) L:=by exact bU) (hΦ:A7 Φ (Φ1 x):=by exact c9) (b:val x=v:=by rfl):JQ n X (E2z P X a α val L1 Φ1 .ret) E L Φ:=cC c hD (I9 d (A6 e)) x hL hΦ b
theorem cy {t s:Nat} {u:Value} (x:α) (c:X.rho=none:=by assumption) (hD:X.D=[]:=by assumption) (d:a.results=#[.tmp t,.tmp s]:=by exact Z) (e:E.lookup t=some v:=by exact Z) (f:E.lookup s=some u:=by exact Z) (hL:List.Sublist (L1 x) L:=by exact bU) (hΦ:A7 Φ (Φ1 x):=by exact c9) (b:val x=.tuple #[v,u]:=by rfl):JQ n X (E2z P X a α val L1 Φ1 .ret) E L Φ:=cC c hD (Y4 d (A6 e) (A6 f)) x hL hΦ b
end
section
variable {β1:Type}
theorem z0 {F:β1→Prop×cA×Own×List Pers×Nat} {z1:β1} (b:β1) (e:(F b).1) (hμ:(F b).2.2.2.2<(F z1).2.2.2.2:=by first|exact Nat.lt_succ_self _|((try dsimp only);omega)) (hL:List.Sublist (F b).2.2.1 L:=by exact bU) (hΦ:A7 Φ (F b).2.2.2.1:=by exact c9) (hE:R0 E (F b).2.1:=by repeat' first|exact trivial|refine ⟨rfl,?_⟩|refine ⟨by first|rfl|(simp only [List.length_set,List.length_append,List.length_cons,List.length_nil];rfl)|(simp;done)|(simp;omega),?_⟩):JQ n X (fun a w=>∃ c,(F c).1∧(F c).2.2.2.2<(F z1).2.2.2.2∧St n X (F c).2.1 (F c).2.2.1 (F c).2.2.2.1 a w) E L Φ:=Z0 b e hμ hL hΦ hE
end
theorem d7 {k:FuncId} {a args:List Value} {first cap:Array Value} {Φ0 Φ1:List Pers} {v:Value} (h:J7 P k a Φ1 v) (e:(first++args.toArray++cap).toList=a:=by exact Z) (b:A7 Φ0 Φ1:=by exact c9):D7 P (.func (.func k) first cap) args Φ0 v:=D7.of h e b
end
end
end Go.Fen
namespace Go.Proofs.YtmldjljkeigpnaaGreatDoor
open Go Go.Fen
theorem D3b (w:World) :
  CallsD Tryz.prog 185 #[] (.panicking [{v:=B0n,recovered:=false}]) w fun e u' w' =>
   e=.returned (.tuple #[])∧u'=.panicking [{v:=B0n,recovered:=true}]∧w'=w:=by
 refine callsD_of_wpS Tryz.func185 Z fun b cs a=>?_
 apply wpS_seq
 apply wpS_region
 simp [wpOpsS,go_sem,recoverD,a,Tryz.ntmps185,Exit.thenS]
 apply wpS_seq
 apply wpS_region
 simp [wpOpsS,go_sem,recoverD,a,Tryz.ntmps185,Exit.thenS]
 refine wpS_cond (t:=true) (by rfl) ?_
 simp only [if_true]
 apply wpS_region
 simp [wpOpsS,go_sem,bodyPostS,results,Tryz.results185,Instr.typeAssert]
theorem E9t (w:World) :
  CallsD Tryz.prog 185 #[] .returning w fun e u' w'=>e=.returned (.tuple #[])∧u'=.returning∧w'=w:=by
 refine callsD_of_wpS Tryz.func185 Z fun b cs a=>?_
 apply wpS_seq
 apply wpS_region
 simp [wpOpsS,go_sem,recoverD,a,Tryz.ntmps185,Exit.thenS]
 apply wpS_seq
 apply wpS_region
 simp [wpOpsS,go_sem,recoverD,a,Tryz.ntmps185,Exit.thenS]
 refine wpS_cond (t:=false) (by rfl) ?_
 simp only [Bool.false_eq_true,if_false]
 refine wpS_of_wp (wp_skip ?_)
 cases b
 simp_all[bodyPostS,results]
def D4v (R:Option (List UInt8)):List UInt8×Bool:=match R with | some s=>(s,true) | none=>([],false)
theorem G0y {k:FuncId} {cap:List Value} {L0:Fen.Own} {Φ0:List Pers} (R:Option (List UInt8)) (h:D9a Tryz.prog k cap L0 Φ0 B0n R (fun s=>.string (bs s))) :
  cM Tryz.prog 114 [.func (.func k) #[] cap.toArray] L0 Φ0 Unit (fun _=>.tuple #[.string (bs (D4v R).1),.bool (D4v R).2]) (fun _=>[]) (fun _=>[]):=by
 refine ⟨⟨by kernel_rfl⟩,fun w c m l j=>?_⟩
 have i:=h.2 w c m l j
 have hb:=h.1
 have n:∀ w:World,(callFunc k cap.toArray).run Tryz.prog w=.ok (.enter k cap.toArray) w:=fun w=>A3l hb _ w
 cases R with
 | none =>
  have a:Calls Tryz.prog k cap.toArray w fun e w'=>e=.panicked [{v:=B0n,recovered:=false}]∧cG (cx w c (L0.map Prod.fst)) [] [] w':=i.mono fun e w' ⟨g,b⟩=>⟨b,g⟩
  go_enter_defers Tryz.func114,Tryz.ntmps114
  go_wp2_with (refine a.mono ?_;rintro e w' ⟨rfl,hw⟩)
  refine leaves_cons (f:=185) (args:=#[]) oom (by simp [go_sem]) ?_
  refine (D3b _).mono ?_
  rintro e u' d ⟨rfl,rfl,rfl⟩
  simp_all[Leaves,settle,results,D4v]
 | some s =>
  have a:Calls Tryz.prog k cap.toArray w fun e w'=>e=.returned (.string (bs s))∧cG (cx w c (L0.map Prod.fst)) [] [] w':=i.mono fun e w' ⟨g,b⟩=>⟨b,g⟩
  go_enter_defers Tryz.func114,Tryz.ntmps114
  go_wp2_with (refine a.mono ?_;rintro e w' ⟨rfl,hw⟩)
  refine leaves_cons (f:=185) (args:=#[]) oom (by simp [go_sem]) ?_
  refine (E9t _).mono ?_
  rintro e u' d ⟨rfl,rfl,rfl⟩
  simp_all[Leaves,settle,results,D4v]
end Go.Proofs.YtmldjljkeigpnaaGreatDoor
namespace Go.Proofs.YtmldjljkeigpnaaGreatDoor
open Go Go.Fen Go.RowKit
section
variable {L0:Fen.Own} {M:List Nat} {h:Hp} {w:World}
set_option maxHeartbeats 1000000 in
theorem D7y (b:Nat) (w:World) (c:w.cell? ⟨b,0,none⟩=some (.pointer (some ⟨b,0,none⟩))) :
  Calls Tryz.prog 238 #[.pointer (some ⟨b,0,none⟩)] w fun e w'=>e=.returned (.tuple #[])∧w'=w:=by
 obtain ⟨j,a,_⟩:=Option.map_eq_some_iff.1 (show (Tryz.prog.info? 295).map (·.size)=some 2 by rfl)
 go_enter Tryz.func238,Tryz.ntmps238
 go_wp2
 rw [Lib.run_neq_ptr_same w _ Tryz.underlying293 a]
 go_wp2
 go_end0
 simp
theorem oki {p:Prop} (h:p:=by kernel_rfl):p:=h
set_option maxHeartbeats 1000000 in
theorem D3v (b:Nat) (w:World) (g:w.cell? ⟨b,0,none⟩=some (.pointer none)) (a:w.shape? b=some (295,2)) (f:w.frozen? ⟨b,0,none⟩=false) :
  Calls Tryz.prog 238 #[.pointer (some ⟨b,0,none⟩)] w fun e w'=>e=.returned (.tuple #[])∧w'=w.setCell ⟨b,0,none⟩ (.pointer (some ⟨b,0,none⟩)):=by
 obtain ⟨j,d,c⟩:=Option.map_eq_some_iff.1 (show (Tryz.prog.info? 295).map (·.size)=some 2 by rfl)
 go_enter Tryz.func238,Tryz.ntmps238
 go_wp2
 rw [Lib.run_to_unsafe w ⟨b,0,none⟩ Tryz.underlying293 Tryz.underlying347 d (by omega) a (Nat.zero_lt_succ 1)]
 simp only [Result.andThen]
 rw [Oper.upon_value]
 go_wp2
 rw [run_callFunc_extern Tryz.func253 oki oki oki (e:=Extern.AbiNoEscape.same) oki]
 rw [Lib.run_noEscape]
 simp only [Result.andThen]
 rw [Oper.upon_value]
 go_wp2
 rw [Lib.run_from_unsafe w ⟨b,0,none⟩ Tryz.underlying347 Tryz.underlying293 d a oki]
 simp only [Result.andThen]
 rw [Oper.upon_value]
 go_wp2
 go_end0
 simp
theorem C9z (w:World):KeptBut M w w.drew:=⟨rfl,rfl,rfl,Nat.le_refl _,fun _ _ _=>Z⟩
theorem E9d {a:World} {g:Nat} (h:KeptBut M a w) (c:g ∈ M) (n:Nat):KeptBut M a (w.freeze ⟨g,0,none⟩ n):=by
 refine h.trans ?_
 unfold World.freeze
 split
 ·simp[KeptBut.refl]
 ·exact ⟨rfl,rfl,rfl,by simp,fun k d b=>by
   grind⟩
set_option maxHeartbeats 1000000 in
theorem E5v (b g cap:Nat) (p:Value) (cur:Array Value) (l:List UInt8) (w:World) (i:l≠[]) (f:w.heap[b]?=some (.cells #[p,.slice (some ⟨g,0,none⟩) l.length cap] 295 (0,0))) (k:w.heap[g]?=some (.cells cur 5 (0,0)))
  (n:l.length≤cap) (d:cap≤maxLen) (q:cur.size=cap) (a:∀ (j:Nat) (x:UInt8),l[j]?=some x→cur[j]?=some (Value.int .u8 (x.toNat:Int))) :
  Calls Tryz.prog 203 #[.pointer (some ⟨b,0,none⟩)] w fun e w'=>e=.returned (.string ⟨l.toArray⟩)∧KeptBut [b,g] w w':=by
 have o:l.length≠0:=by grind
 have c1:w.drew.cell? ⟨b,1,none⟩=some (.slice (some ⟨g,0,none⟩) l.length cap):=by
  have:w.drew.heap[b]?=some (.cells #[p,.slice (some ⟨g,0,none⟩) l.length cap] 295 (0,0)):=f
  rw [Lib.cell_of_heap this];rfl
 have r:(Builtin.unsafeSliceData_ #[97] 331 #[.slice (some ⟨g,0,none⟩) l.length cap]).run Tryz.prog w.drew=.ok (.pointer (some ⟨g,0,none⟩)) w.drew :=
  Lib.run_unsafeSliceData_row _ _ _ _ _ _ opx
 have m:(Builtin.unsafeString_ #[331,3] 9 #[.pointer (some ⟨g,0,none⟩),.int .i64 l.length]).run Tryz.prog w.drew=.ok (.string ⟨l.toArray⟩) (w.drew.freeze ⟨g,0,none⟩ l.length):=by
  refine Lib.run_unsafeString_row w.drew 331 3 9 5 Tryz.underlying331 oki g cur.size (by have c:w.drew.heap[g]?=some (.cells cur 5 (0,0)):=k;grind[World.shape?]) l i opx (by grind[maxLen]) ?_
  intro j x s
  have c:w.drew.heap[g]?=some (.cells cur 5 (0,0)):=k
  rw [Addr.add_lit,Nat.zero_add,Lib.cell_of_heap c]
  grind
 have h:Tryz.prog.follows .mixedOrders=true:=by rfl
 go_enter Tryz.func203,Tryz.ntmps203
 go_wp2
 go_region_o
 all_goals (go_wp2;go_ret;exact ⟨rfl,E9d (C9z w) oom _⟩)
set_option maxHeartbeats 2000000 in
theorem E8s (b:Nat) (p:Value) (w:World) (c:w.heap[b]?=some (.cells #[p,.slice none 0 0] 295 (0,0))) :
  Calls Tryz.prog 203 #[.pointer (some ⟨b,0,none⟩)] w fun e w'=>e=.returned (.string ⟨#[]⟩)∧KeptBut [b] w w':=by
 have d:=fun (W:World) (q:Option Addr)=>Lib.run_unsafeString_none (P:=Tryz.prog) W 331 3 9 q
 have c1:w.drew.cell? ⟨b,1,none⟩=some (.slice none 0 0):=by
  have:w.drew.heap[b]?=some (.cells #[p,.slice none 0 0] 295 (0,0)):=c
  rw [Lib.cell_of_heap this];rfl
 have f:(Builtin.unsafeSliceData_ #[97] 331 #[.slice none 0 0]).run Tryz.prog w.drew=.ok (.pointer none) w.drew:=rfl
 have a:Tryz.prog.follows .mixedOrders=true:=by rfl
 go_enter Tryz.func203,Tryz.ntmps203
 go_wp2
 go_region_o
 all_goals (go_wp2;go_ret;exact ⟨rfl,C9z w⟩)
set_option maxHeartbeats 2000000 in
theorem D8q (b g:Nat) (p:Value) (cur:Array Value) (w:World) (a:w.heap[b]?=some (.cells #[p,.slice (some ⟨g,0,none⟩) 0 0] 295 (0,0))) (i:w.heap[g]?=some (.cells cur 5 (0,0))) :
  Calls Tryz.prog 203 #[.pointer (some ⟨b,0,none⟩)] w fun e w'=>e=.returned (.string ⟨#[]⟩)∧KeptBut [b,g] w w':=by
 have h:=fun (W:World) (q:Option Addr)=>Lib.run_unsafeString_none (P:=Tryz.prog) W 331 3 9 q
 have c:b<w.heap.size:=by
  grind
 have c1:w.drew.cell? ⟨b,1,none⟩=some (.slice (some ⟨g,0,none⟩) 0 0):=by
  have:w.drew.heap[b]?=some (.cells #[p,.slice (some ⟨g,0,none⟩) 0 0] 295 (0,0)):=a
  rw [Lib.cell_of_heap this];rfl
 have j:(Builtin.unsafeSliceData_ #[97] 331 #[.slice (some ⟨g,0,none⟩) 0 0]).run Tryz.prog w.drew=.ok (.pointer (some ⟨w.drew.heap.size,0,none⟩)) (w.drew.alloc (.view ⟨g,0,none⟩ 5)) :=
  Lib.run_unsafeSliceData_zero w.drew _ _ 5 Tryz.underlying331 ⟨g,0,none⟩ 0 (5,cur.size) (by have d:w.drew.heap[g]?=some (.cells cur 5 (0,0)):=i;grind[World.shape?])
 have c2:(w.drew.alloc (.view ⟨g,0,none⟩ 5)).cell? ⟨b,1,none⟩=some (.slice (some ⟨g,0,none⟩) 0 0):=by
  have:(w.drew.alloc (.view ⟨g,0,none⟩ 5)).heap[b]?=_:=(Lib.alloc_old w.drew _ b c).trans a
  rw [Lib.cell_of_heap this];rfl
 have k:(w.alloc (.view ⟨g,0,none⟩ 5)).drew.cell? ⟨b,1,none⟩=some (.slice (some ⟨g,0,none⟩) 0 0):=c2
 have c0:w.cell? ⟨b,1,none⟩=some (.slice (some ⟨g,0,none⟩) 0 0):=c1
 have f:Tryz.prog.follows .mixedOrders=true:=by rfl
 go_enter Tryz.func203,Tryz.ntmps203
 go_wp2
 go_region_o
 all_goals (go_wp2;go_ret;exact ⟨rfl,(C9z w).alloc _⟩)
set_option maxHeartbeats 2000000 in
theorem E5g (b g cap:Nat) (p:Value) (w:World) (a:cap≠0) (d:w.heap[b]?=some (.cells #[p,.slice (some ⟨g,0,none⟩) 0 cap] 295 (0,0))) :
  Calls Tryz.prog 203 #[.pointer (some ⟨b,0,none⟩)] w fun e w'=>e=.returned (.string ⟨#[]⟩)∧KeptBut [b,g] w w':=by
 have f:=fun (W:World) (q:Option Addr)=>Lib.run_unsafeString_none (P:=Tryz.prog) W 331 3 9 q
 have c1:w.drew.cell? ⟨b,1,none⟩=some (.slice (some ⟨g,0,none⟩) 0 cap):=by
  have:w.drew.heap[b]?=some (.cells #[p,.slice (some ⟨g,0,none⟩) 0 cap] 295 (0,0)):=d
  rw [Lib.cell_of_heap this];rfl
 have h:(Builtin.unsafeSliceData_ #[97] 331 #[.slice (some ⟨g,0,none⟩) 0 cap]).run Tryz.prog w.drew=.ok (.pointer (some ⟨g,0,none⟩)) w.drew :=
  Lib.run_unsafeSliceData_row _ _ _ _ _ _ a
 clear a
 have c:Tryz.prog.follows .mixedOrders=true:=by rfl
 go_enter Tryz.func203,Tryz.ntmps203
 go_wp2
 go_region_o
 all_goals (go_wp2;go_ret;exact ⟨rfl,C9z w⟩)
theorem st0 (i:h.sub w) (c:A5x L0 h w):cG (cx w h (L0.map Prod.fst)) L0 [] w :=
 ⟨h,⟨fun q f=>(by cases f),i,Hp.le_refl _,fun b hb=>.inl hb,c,fun e g=>.inl (List.mem_map_of_mem g),KeptBut.refl _ _,fun d a=>by cases a⟩⟩
theorem E6e (b:Nat) (v:Value):cM Tryz.prog 238 [pt b 0] [bx b [.pointer none,v] 295] [] Unit (fun _=>.tuple #[]) (fun _=>[bx b [pt b 0,v] 295]) (fun _=>[]):=by
 refine ⟨⟨by kernel_rfl⟩,fun w h l d c=>?_⟩
 have hb:=(c.1 _ (List.mem_singleton.2 Z)).1
 simp only at hb
 have f:=st0 d c
 refine (D3v b w (by rw [Lib.cell_of_heap hb];rfl) (by grind[World.shape?]) (Lib.frozen_of_heap hb 0)).mono ?_
 rintro e w' ⟨rfl,rfl⟩
 refine ⟨(),rfl,?_⟩
 have a:w.setCell ⟨b,0,none⟩ (.pointer (some ⟨b,0,none⟩))=w.setRow b #[pt b 0,v]:=by
  have:=setRow_heap w b #[Value.pointer none,v] #[pt b 0,v] 295 (0,0) hb
  simp only [World.setCell,World.setRow]
  congr 1
  grind
 rw [a]
 exact f.set (i:=0) Z (setRow_heap w b _ _ 295 (0,0) hb) (fun k g=>setRow_other w b k _ g) Z Z Z oom
theorem E5x (b:Nat) (v:Value):cM Tryz.prog 238 [pt b 0] [bx b [pt b 0,v] 295] [] Unit (fun _=>.tuple #[]) (fun _=>[bx b [pt b 0,v] 295]) (fun _=>[]):=by
 refine ⟨⟨by kernel_rfl⟩,fun w h f c a=>?_⟩
 have hb:=(a.1 _ (List.mem_singleton.2 Z)).1
 simp only at hb
 have d:=st0 c a
 refine (D7y b w (by rw [Lib.cell_of_heap hb];rfl)).mono ?_
 simp_all
theorem G0o {w':World} (g:h.sub w) (k:A5x L0 h w) (i:KeptBut (L0.map Prod.fst) w w'):cG (cx w h (L0.map Prod.fst)) [] [] w':=by
 refine ⟨h,⟨fun q m=>(by cases m),fun b o e=>?_,Hp.le_refl _,fun b hb=>.inl hb,⟨fun e c=>(by cases c),List.nodup_nil⟩,fun e c=>(by cases c),i,fun d j=>by cases j⟩⟩
 have a:b ∉ L0.map Prod.fst:=fun l=>by
  obtain ⟨n,f,rfl⟩:=List.mem_map.1 l
  rw [(k.1 n f).2] at e
  cases e
 rw [i.block b (Hp.lt g e) a]
 exact g b o e
theorem E6c (b:Nat) (p:Value) (l:List UInt8) (r:VR) (f:bT 1 l.length r):cM Tryz.prog 203 [pt b 0] (bx b [p,vv r l.length] 295::(vo cJ 5 r l++[])) [] Unit (fun _=>sv l) (fun _=>[]) (fun _=>[]):=by
 refine ⟨⟨by kernel_rfl⟩,fun w h hq hs n=>?_⟩
 have hb:=(n.1 (bx b [p,vv r l.length] 295) oom).1
 simp only at hb
 have o:∀ {R:Ending→World→Prop},(∀ e w',(e=.returned (.string ⟨l.toArray⟩)∧KeptBut ((bx b [p,vv r l.length] 295::(vo cJ 5 r l++[])).map Prod.fst) w w')→R e w')→(Calls Tryz.prog 203 #[pt b 0] w fun e w'=>e=.returned (.string ⟨l.toArray⟩)∧KeptBut ((bx b [p,vv r l.length] 295::(vo cJ 5 r l++[])).map Prod.fst) w w')→Calls Tryz.prog 203 #[pt b 0] w R:=fun h1 z=>z.mono h1
 refine o (fun e w' ⟨he,c⟩=>⟨(),he,G0o hs n c⟩) ?_
 obtain ⟨q,k,j⟩:=r
 cases q with
 | none =>
  have u:l.length=0∧k=0:=f
  have v:l=[]:=List.eq_nil_of_length_eq_zero u.1
  obtain ⟨_,c⟩:=u
  subst v c
  exact E8s b p w hb
 | some g =>
  have a:l.length * 1+j.length=k * 1∧l.length≤k∧k≤maxLen:=f
  have s:=(n.1 (bx g (l.flatMap cJ++j) 5) (by simp [vo])).1
  simp only at s
  have d:(l.flatMap cJ).length=l.length:=by rw [G8 (sz:=1) jJ];omega
  cases l with
  | nil =>
   by_cases c:k=0
   ·subst c
    exact D8q b g p _ w hb s
   ·exact E5g b g k p w c hb
  | cons x l =>
   refine E5v b g k p _ (x::l) w oom hb s a.2.1 a.2.2 (by grind) ?_
   grind[E3g]
theorem E7b (b:Nat) (v:Value) (a:Option Addr) (h:a=none∨a=some ⟨b,0,none⟩):cM Tryz.prog 238 [pt b 0] [bx b [.pointer a,v] 295] [] Unit (fun _=>.tuple #[]) (fun _=>[bx b [pt b 0,v] 295]) (fun _=>[]):=by
 rcases h with rfl | rfl
 all_goals simp[E6e,E5x]
end
end Go.Proofs.YtmldjljkeigpnaaGreatDoor
namespace Go.Fen
open Go Go.RowKit Go.Sort Go.Proofs
def F8f (g:Nat) (cs:List Value):Pers:=⟨fun h=>∃ T a,h g=some (.cells cs.toArray T a),fun {h h'} hl hp=>let ⟨T,a,e⟩:=hp;⟨T,a,hl g _ e⟩⟩
section
variable {P:Program}
theorem F3t {i:List (String×DataW Unit)} {w:World} {b:String} {g T:Nat} {ds:List (DataW Unit)} (j:(b,.agg ds) ∈ i) (hg:P.globalNamed b=some g) (hT:(P.globals[g]?).map (·.type)=some T)
  {e sz k:Nat} {α:Type} {c:α→List Value} {D:{H:Type}→DataW H→α→Prop} {p:Hp→α→Prop} (hc:Cod P e α c D p) (a2:∀ x,(c x).length=sz) (v:P.cellsOf e=sz) (ht:P.underlying T=some (.array k e)) (a1:P.cellsOf T=k * sz)
  (m:DataW Unit→Option α) (u:∀ d a,D d a→m d=some a) {tab:List α} (s:ds.mapM m=some tab) (h:laidMet P i w):(F8f g (tab.flatMap c)).p (C5p w):=by
 obtain ⟨ps,h,_⟩:=h
 have:∀ (l:List (String×DataW Unit)) (ps:List MemPlace),DataW.LaidVars P w l ps→(b,.agg ds) ∈ l→∃ cs f q,w.var? P b=some cs∧DataW.trod (fun _=>()) P w 0 (fun _=>true) false f T cs.toList=some (.agg ds,q):=by
  intro l
  induction l with
  | nil=>simp
  | cons y r ih =>
   intro ps h j
   obtain ⟨n,d⟩:=y
   obtain ⟨g',t,cs,f,p',q,h1,h2,h3,h4,h5,_⟩:=h
   grind
 obtain ⟨cs,f,q,o,z⟩:=this i ps h j
 have a0:=E7a hc a2 v ht a1 m u s z
 unfold World.var? at o
 rw [hg] at o
 simp only [Option.bind_some] at o
 split at o
 ·rename_i cs' TT fr hh
  obtain rfl:cs'=cs:=Option.some.inj o
  refine ⟨TT,fr,?_⟩
  rw [← a0]
  exact hh
 ·cases o
end
theorem F3v {P:Program} {f:FuncId} {args:List Value} {Φ:List Pers} {v:Value} (hb:HasBody P f)
  (h:∀ (w:World) (h:Hp),(∀ q ∈ Φ,q.p h)→h.sub w→Calls P f args.toArray w fun e w'=>e=.returned v∧∃ k c,w'=grow (w.drewN k) c):J7 P f args Φ v:=by
 refine ⟨hb,fun w hp hΦ hs ho=>(h w hp hΦ hs).mono fun e w' a=>⟨(),a.1,hp,?_⟩⟩
 obtain ⟨a,k,c,rfl⟩:=a
 refine ⟨fun q l=>(by cases l),fun b o hb=>?_,Hp.le_refl _,fun b hb=>.inl hb,⟨fun e a=>(by cases a),List.nodup_nil⟩,fun e a=>(by cases a),⟨rfl,rfl,rfl,?_,fun b hb _=>?_⟩,fun d j=>(by cases j)⟩
 ·have i:=hs b o hb
  obtain ⟨g,_⟩:=Array.getElem?_eq_some_iff.1 i
  show (w.heap++c)[b]?=some o
  grind
 ·simp
 ·show (w.heap++c)[b]?=w.heap[b]?
  grind
end Go.Fen
namespace Go.Proofs.YtmldjljkeigpnaaGreatDoor
open Go Go.Fen Go.RowKit Go.Sort
def E7s:Go.Shelf.Ren:=⟨fun | 171=>191 | 243=>218 | 246=>245 | 283=>258 | 284=>259 | 285=>260 | 286=>261 | 129=>270 | 317=>269 | 318=>271 | 319=>272 | 320=>273 | 337=>277 | 338=>278 | n=>n,fun | 3=>3 | 9=>9 | 2=>2 | 4=>4 | 171=>349 | 0=>0 | 53=>338 | 37=>97 | 5=>5 | 173=>351 | 212=>359 | 51=>336 | 20=>20 | 213=>360 | 46=>270 | 232=>365 | 233=>366 | n=>n,fun | 17=>4 | 18=>6 | 19=>7 | n=>n⟩
theorem F7q:Go.Proofs.LaysM.n171 Tryz.prog E7s where
 mixed:=by rfl
 f129:=Tryz.func270.trans (congrArg some oki)
 f171:=Tryz.func191.trans (congrArg some oki)
 f243:=Tryz.func218.trans (congrArg some oki)
 f246:=Tryz.func245.trans (congrArg some oki)
 f283:=Tryz.func258.trans (congrArg some oki)
 f284:=Tryz.func259.trans (congrArg some oki)
 f285:=Tryz.func260.trans (congrArg some oki)
 f286:=Tryz.func261.trans (congrArg some oki)
 f317:=Tryz.func269.trans (congrArg some oki)
 f318:=Tryz.func271.trans (congrArg some oki)
 f319:=Tryz.func272.trans (congrArg some oki)
 f320:=Tryz.func273.trans (congrArg some oki)
 f337:=Tryz.func277.trans (congrArg some oki)
 f338:=Tryz.func278.trans (congrArg some oki)
 t0:=Tryz.underlying0
 a0:=Tryz.isAgg0
 z0:=Tryz.sizeOf0
 v0:=Tryz.zeroValue0
 t2:=Tryz.underlying2
 a2:=Tryz.isAgg2
 z2:=Tryz.sizeOf2
 v2:=Tryz.zeroValue2
 t3:=Tryz.underlying3
 a3:=Tryz.isAgg3
 z3:=Tryz.sizeOf3
 v3:=Tryz.zeroValue3
 t4:=Tryz.underlying4
 a4:=Tryz.isAgg4
 z4:=Tryz.sizeOf4
 v4:=Tryz.zeroValue4
 t5:=Tryz.underlying5
 a5:=Tryz.isAgg5
 z5:=Tryz.sizeOf5
 v5:=Tryz.zeroValue5
 t9:=Tryz.underlying9
 a9:=Tryz.isAgg9
 z9:=Tryz.sizeOf9
 v9:=Tryz.zeroValue9
 t20:=Tryz.underlying20
 a20:=Tryz.isAgg20
 z20:=Tryz.sizeOf20
 v20:=Tryz.zeroValue20
 t37:=Tryz.underlying97
 a37:=Tryz.isAgg97
 z37:=Tryz.sizeOf97
 v37:=Tryz.zeroValue97
 t46:=Tryz.underlying270
 a46:=Tryz.isAgg270
 z46:=Tryz.sizeOf270
 v46:=Tryz.zeroValue270
 t51:=Tryz.underlying336
 a51:=Tryz.isAgg336
 z51:=Tryz.sizeOf336
 v51:=Tryz.zeroValue336
 t53:=Tryz.underlying338
 a53:=Tryz.isAgg338
 z53:=Tryz.sizeOf338
 v53:=Tryz.zeroValue338
 t171:=Tryz.underlying349
 a171:=Tryz.isAgg349
 z171:=Tryz.sizeOf349
 v171:=Tryz.zeroValue349
 t173:=Tryz.underlying351
 a173:=Tryz.isAgg351
 z173:=Tryz.sizeOf351
 v173:=Tryz.zeroValue351
 t212:=Tryz.underlying359
 a212:=Tryz.isAgg359
 z212:=Tryz.sizeOf359
 v212:=Tryz.zeroValue359
 t213:=Tryz.underlying360
 a213:=Tryz.isAgg360
 z213:=Tryz.sizeOf360
 t232:=Tryz.underlying365
 a232:=Tryz.isAgg365
 z232:=Tryz.sizeOf365
 v232:=Tryz.zeroValue365
 t233:=Tryz.underlying366
 a233:=Tryz.isAgg366
 z233:=Tryz.sizeOf366
 v233:=Tryz.zeroValue366
 g17:=by kernel_rfl
 g18:=by kernel_rfl
 g19:=by kernel_rfl
 i0:=by rfl
 i2:=by rfl
 i3:=by rfl
 i4:=by rfl
 i5:=by rfl
 i9:=by rfl
 i20:=by rfl
 i37:=by rfl
 i46:=by rfl
 i51:=by rfl
 i53:=by rfl
 i171:=by rfl
 i173:=by rfl
 i212:=by rfl
 i232:=by rfl
 i233:=by rfl
 m17:=by rfl
 m18:=by rfl
 m19:=by rfl
def C2i:List Value:=Lib.pow10Tab.map fun z=>Value.int .u64 z
theorem G1g (n:Int) (b:-9223372036854775808≤n∧n≤9223372036854775807):J7 Tryz.prog 191 [iv n] [F8f 4 C2i] (sv (Lib.itoa n)):=by
 refine F3v ⟨by rfl⟩ fun w h hΦ hs=>?_
 obtain ⟨T,c,e⟩:=hΦ _ jU
 have a : Lib.TabIs Tryz.prog w "internal/strconv.uint64pow10" .u64 Lib.pow10Tab := by
  unfold Lib.TabIs World.var?
  rw [show Tryz.prog.globalNamed "internal/strconv.uint64pow10" = some 4 by rfl]
  show (match w.heap[4]? with | some (.cells cs _ _)=>some cs | _=>none)=_
  rw [hs 4 _ e];rfl
 exact Any.strconv_Itoa F7q n b.1 b.2 w a
theorem E5k (n:Int) (b:-9223372036854775808≤n) (a:n≤9223372036854775807):(Lib.itoa n).length≤21:=Lib.itoa_length_le n b a
end Go.Proofs.YtmldjljkeigpnaaGreatDoor
