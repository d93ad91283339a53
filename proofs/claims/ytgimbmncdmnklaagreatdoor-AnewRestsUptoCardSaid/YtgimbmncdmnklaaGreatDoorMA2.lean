import Derived.Scope
import Derived.Laws.IdiomStrings
import Derived.ArgAppend
import Derived.Deep.AppendSrc
import Derived.Deep.Upon
import Derived.Laws.MakeOwn
import Derived.Carry
import Derived.ChangeSame
import Derived.ChangeArms
import Derived.ChangeShapes
import Derived.Lib.LaidTab
import Derived.Tactics
import Derived.Tactics2
import Derived.Defers
import Derived.Recover
import Derived.Laws.Pointers
import Derived.Test.YtgimbmncdmnklaaGreatDoorProg
import Derived.Lib.Builder
import Derived.Lib.UnsafeStr
import Derived.Laws.Externs
import Derived.WalkKit
import Derived.Shelf.RegionOpenPlain
import Derived.Shelf.Strconv.Itoa3
import Derived.Lib.ItoaLen
import Derived.Test.YtgimbmncdmnklaaGreatDoorMA1
set_option linter.unusedVariables false
set_option linter.unusedSimpArgs false
set_option linter.unnecessarySimpa false
set_option maxRecDepth 100000
namespace Go.Fen
open Go Go.RowKit
section
variable {P:Program} {n:Nat} {X:Cx} {K:Act→World→Prop} {Q:Exit→Act→World→Prop} {E E':bY} {L L':Own} {Φ Φ':List Pers}
theorem E2n {α:Type} {f:α→List Value} {q:Option Addr} {xs:List α} {w:World} (b:cE X L Φ w) (j:Nat) (hΦ:Φ[j]?=some (sl f q xs)) (c:0<xs.length):∃ a,q=some a :=
 let ⟨_,hp⟩:=b;E2x (hp.facts _ (List.mem_of_getElem? hΦ)) c
theorem B7d {ops:Array Oper} {i m:Nat} {α:Type} {f:α→List Value} {q:Option Addr} {xs:List α} (j:Nat) (hΦ:Φ[j]?=some (sl f q xs)) (d:0<xs.length) (h:∀ a,q=some a→JD P n X ops i m K E L Φ):JD P n X ops i m K E L Φ:=fun a g e k=>by
 by_cases hC:∃ w,cE X L Φ w
 ·obtain ⟨w,c⟩:=hC
  obtain ⟨b,hb⟩:=E2n c j hΦ d
  exact h b hb a g e k
 ·exact B3e (fun w c=>hC ⟨w,c⟩) _ _
theorem B7w {ops:Array Oper} {e:Nat} {c:Array Bool} {d:A0j} {Φs:List Pers} {α:Type} {f:α→List Value} {q:Option Addr} {xs:List α} (j:Nat) (hΦ:Φ[j]?=some (sl f q xs)) (i:0<xs.length) (h:∀ a,q=some a→JH P n X ops e c K d Φs E L Φ):JH P n X ops e c K d Φs E L Φ :=
 ⟨fun o k l m p a w g=>by
  obtain ⟨b,hb⟩:=E2n g.world j hΦ i
  exact (h b hb).go o k l m p a w g⟩
theorem F8 {o:Oper} {T e sz:Nat} {x y:Operand} {q:Option Addr} {a:Addr} {b cap:Nat} {m:Int} (j:SlTy P T e sz) (c:o.op=.indexAddr T x y)
  (g:ev E x=some (.slice q b cap)) (i:q=some a) (f:ev E y=some (.int .i64 m)) (k:Nat) (h:m=k) (d:k<b):J9 P X o E L Φ (.pointer (some (a.add (k * sz)))):=by
 subst i;exact E7u j c g f k h d
theorem H2 {α:Type} {c:α→List Value} {sz:Nat} {q:Option Addr} {a:Addr} {xs:List α} (b:q=some a) (e:∀ x,(c x).length=sz) (j:Nat) (h:Φ[j]?=some (sl c q xs)) {k:Nat} {v:α} (d:xs[k]?=some v):V3 Φ (at_ (a.add (k * sz)) (c v)):=by
 subst b;exact F5u e j h d
theorem B8e {o:Oper} {T e sz:Nat} {ps:Array (Nat×Operand)} (d:SlTy P T e sz) (c:o.op=.buildSlice T 0 ps) (f:ps=#[]) :
  Tri P n X o E L Φ Nat (fun b=>.slice (some ⟨b,0,none⟩) 0 0) (fun b=>bx b [] e::L) (fun _=>Φ):=by
 intro a w K Q h g
 subst f
 refine A8v (by rw [c];rfl) ?_
 unfold Oper.wp
 rw [show (execOp a.eval o).run P w=.ok (.value (.slice (some ⟨w.heap.size,0,none⟩) 0 0)) (w.alloc (.cells #[] e (0,0))) by
  simp [execOp,c,Instr.buildSlice,run_underlying d.ty,d.run,newRow,Instr.fill,show (Array.range 0)=#[] by simp [Array.range]]]
 exact g _ _ (h.world.alloc _)
theorem cE.sealed {α:Type} {c:α→List Value} {T:Nat} {r:VR} {xs:List α} {pre post:Own} {w:World} {sz:Nat} (a:bT sz xs.length r) (h:cE X (pre++(vo c T r xs++post)) Φ w):cE X (pre++post) (sl c (va r.q) xs::Φ) w:=by
 unfold vo at h
 cases d:r.q with
 | none =>
  rw [d] at h
  unfold bT at a
  rw [d] at a
  simp only [List.nil_append] at h
  refine h.fact _ fun p _=>?_
  have:xs=[]:=List.length_eq_zero_iff.1 a.1
  rw [this];rfl
 | some b =>
  rw [d] at h
  simp only [List.cons_append,List.nil_append] at h
  have e:(pre++bx b (xs.flatMap c++r.j) T::post).Perm (bx b (xs.flatMap c++r.j) T::(pre++post)):=List.perm_middle
  have g:=(h.perm e).freeze (i:=0) rfl
  refine cE.foll (Φ:=blk b (.cells (xs.flatMap c++r.j).toArray T (0,0))::Φ) g fun p e q d=>?_
  rcases List.mem_cons.1 d with rfl | d
  ·have hb:p b=some (.cells (xs.flatMap c++r.j).toArray T (0,0)):=e (blk b _) oom
   refine .inr ⟨rfl,_,_,_,hb,fun j v f=>?_⟩
   simp only [Nat.zero_add,List.getElem?_toArray]
   rw [List.getElem?_append_left (List.getElem?_eq_some_iff.1 f).1];exact f
  ·exact e q (by simp [d])
theorem R5 {ops:Array Oper} {i m:Nat} {α:Type} {c:α→List Value} {T:Nat} {r:VR} {xs:List α} (pre post:Own) {sz:Nat} (d:bT sz xs.length r) (hL:L=pre++(vo c T r xs++post)) (h:JI P n X ops i m K Q E (pre++post) (sl c (va r.q) xs::Φ)):JI P n X ops i m K Q E L Φ :=
 fun a w b=>h a w ⟨b.size,b.defers,b.has,by have:=b.world;rw [hL] at this;exact this.sealed d⟩
theorem D0y {e:Code} {α:Type} {c:α→List Value} {T:Nat} {r:VR} {xs:List α} (pre post:Own) {sz:Nat} (d:bT sz xs.length r) (hL:L=pre++(vo c T r xs++post)) (h:J P n X e Q E (pre++post) (sl c (va r.q) xs::Φ)):J P n X e Q E L Φ :=
 fun a w b=>h a w ⟨b.size,b.defers,b.has,by have:=b.world;rw [hL] at this;exact this.sealed d⟩
theorem E9e {α:Type} {c:α→List Value} {T:Nat} {r:VR} {xs:List α} (pre post:Own) {sz:Nat} (d:bT sz xs.length r) (hL:L=pre++(vo c T r xs++post)) (h:JQ n X K E (pre++post) (sl c (va r.q) xs::Φ)):JQ n X K E L Φ :=
 fun a w b=>h a w ⟨b.size,b.defers,b.has,by have:=b.world;rw [hL] at this;exact this.sealed d⟩
theorem A7.dropT (k:Nat) (h:Φ.drop k=Φ'):A7 Φ Φ':=fun p b q a=>b q (by rw [← h] at a;exact (List.drop_sublist k Φ).subset a)
theorem E6a {ops:Array Oper} {e:Nat} {b:Array Bool} {d:A0j} {Φs:List Pers} (i:Nat) {o:Oper} {α:Type} {val:α→Value} {L':α→Own} {Φ':α→List Pers} (Lh:Own) (c:Array Bool) (j:ops[i]?=some o) (q:B0t ops o E=some true) (g:Y5 n o.dst=true)
  (k:b.setIfInBounds i true=c) (r:b.setIfInBounds i true=c) (m:d.at c=Lh) (p:Tri P n X o E L Φ α val L' Φ') (f:∀ x,Lh.Sublist (L' x)) (hΦ':∀ x,A7 (Φ' x) Φs) (h:∀ x,JH P n X ops e c K d Φs (bY.put E o.dst (val x)) (L' x) (Φ' x)) :
  ∀ a w,St n X E L Φ a w→A5g ops=true→Region.noSelect ops=true→b.size=ops.size→wpOpIn (FW X.rho) 0 P ops (oN K) i (fun s w'=>((b.setIfInBounds i true).size=ops.size∧cE X (d.at (b.setIfInBounds i true)) Φs w')∧AH X.rho P ops (oN K) (fun l w=>l.size=ops.size∧cE X (d.at l) Φs w) e (b.setIfInBounds i true) s w') a w:=by
 subst k m
 exact E7s i j q g p f hΦ' h
theorem D5k {ops:Array Oper} {i m:Nat} (t:Nat) {g b:Bool} (d:E.lookup t=some (.bool g)) (e:g=b) (h:JI P n X ops i m K Q ((t,.bool b)::E) L Φ):JI P n X ops i m K Q E L Φ:=fun a w c=>h a w ⟨c.size,c.defers,c.has.lit d e,c.world⟩
theorem cE.fix {w:World} {i b T:Nat} {cs:List Value} (e:L[i]?=some (bx b cs T)) (h:cE X L Φ w):cE X (L.eraseIdx i) (at_ ⟨b,0,none⟩ cs::Φ) w :=
 (h.freeze e).foll fun p c q a=>by
  rcases List.mem_cons.1 a with rfl | a
  ·have hb:p b=some (.cells cs.toArray T (0,0)):=c (blk b (.cells cs.toArray T (0,0))) oom
   exact .inr ⟨rfl,_,_,_,hb,fun j v d=>by simpa using d⟩
  ·exact c q (by simp [a])
theorem A3w {ops:Array Oper} {i m:Nat} (k:Nat) {b T:Nat} {cs:List Value} (d:L[k]?=some (bx b cs T)) (h:JI P n X ops i m K Q E (L.eraseIdx k) (at_ ⟨b,0,none⟩ cs::Φ)):JI P n X ops i m K Q E L Φ :=
 fun a w c=>h a w ⟨c.size,c.defers,c.has,c.world.fix d⟩
theorem F4r {b:Code} {α:Type} {c:α→List Value} {q:Option Addr} {xs:List α} (j:Nat) (hΦ:Φ[j]?=some (sl c q xs)) (f:q=none) (h:xs=[]→J P n X b Q E L Φ):J P n X b Q E L Φ:=fun a w d=>by
 obtain ⟨p,e⟩:=d.world
 have:=e.facts _ (List.mem_of_getElem? hΦ)
 subst f
 exact h this a w d
theorem H1 {o:Oper} {c:Call} {f:Operand} {k:FuncId} {first cap:Array Value} {e args:List Value} {L0 L2:Own} {Φ0:List Pers} {α:Type} {val:α→Value} {L1:α→Own} {Φ1:α→List Pers}
  (b:Con P k args L0 Φ0 α val L1 Φ1) (i:o.op=.call c) (l:c.callee=.value f) (g:ev E f=some (.func (.func k) first cap)) (a:c.args.toList.mapM (ev E)=some e) (j:(first++e.toArray++cap).toList=args)
  (hΦ:A7 Φ Φ0) (hL:L.Perm (L0++L2)) (L':α→Own) (d:∀ x,L1 x++L2=L' x):Tri P n X o E L Φ α val L' (fun x=>Φ1 x++Φ):=by
 obtain rfl:(fun x=>L1 x++L2)=L':=funext d
 exact D9d b i l g a j hΦ hL
theorem A8r {b:Frame} {a:Act} {k:List Item} {cs:List Frame} {w:World} {c:Code}:step P (lone (b.atR a (.code (.scope c)::k)) cs w)=.next (lone (b.atR a (.code c::.inScope c::k)) cs w) :=
 step_lone_go (by simp [stepG,stepG.exec,Frame.atR])
theorem D2k {b:Frame} {a:Act} {k:List Item} {cs:List Frame} {w:World} {c:Code}:step P (lone (b.atR a (.inScope c::k)) cs w)=.next (lone (b.atR a k) cs w) :=
 step_lone_go (by simp [stepG,stepG.exec,Frame.atR])
theorem E0v {F:Fence} {m:Nat} {c:Code} {a:Act} {w:World} (h:c.wpIn F m P (Exit.noGoto Q) a w):(Code.scope c).wpIn F m P Q a w:=by
 intro b k cs o hb hr
 have f:(lone (b.atR a (.code (.scope c)::k)) cs w).fenced P F:=fenced_calm hb hr rfl
 obtain ⟨e,j,i,g,d⟩:=h b (.inScope c::k) cs o hb hr
 cases e with
 | normal=>exact ⟨.normal,j,i,g,.head f A8r (StepsIn.trans d (.one (fenced_calm hb hr rfl) D2k))⟩
 | exit id =>
  have q:exitTo id (.inScope c::k)=exitTo id k:=by simp [exitTo]
  exact ⟨.exit id,j,i,g,fun r p=>.head f A8r (d.1 r (by rw [q];exact p)),
   fun n p=>let ⟨k₁,h1,h2⟩:=d.2 n (by rw [q];exact p);⟨k₁,h1,.head f A8r h2⟩⟩
 | goto l=>exact g.elim
 | ret=>exact ⟨_,j,i,g,.of_steps (.one f A8r) d⟩
 | panic ch=>exact ⟨_,j,i,g,.of_steps (.one f A8r) d⟩
 | outgrown=>exact ⟨_,j,i,g,.of_steps (.one f A8r) d⟩
theorem C0j {c:Code} (h:J P n X c (Exit.noGoto Q) E L Φ):J P n X (.scope c) Q E L Φ:=fun a w b=>E0v (h a w b)
theorem C0m {l:Nat} (h:JQ n X (Q .normal) E L Φ):J P n X (.label l) Q E L Φ:=fun a w b=>wpIn_label (h a w b)
theorem C0r {o:Oper} {T:TypeId} {x:Operand} {a c:Int} (b:o.op=.unOp .neg T x) (d:ev E x=some (.int .i64 a)) (e:-a=c) (h:-9223372036854775808≤c∧c≤9223372036854775807):J9 P X o E L Φ (.int .i64 c) :=
 .pure (by simp only [B5v,b,d];rw [show (0 - a:Int)=c by omega,A3i (k:=.i64) h.1 h.2])
theorem A8l {ops:Array Oper} {i m:Nat} (hΦ:A7 Φ Φ') (h:JI P n X ops i m K Q E L Φ'):JI P n X ops i m K Q E L Φ:=fun a w b=>h a w ⟨b.size,b.defers,b.has,b.world.foll hΦ⟩
theorem A7.yield (a:List Pers) {A B:List Pers}:A7 (A++(a++B)) (a++A):=fun p b q c=>b q (by
 rcases List.mem_append.1 c with h | h
 ·exact List.mem_append_right _ (List.mem_append_left _ h)
 ·exact List.mem_append_left _ h)
theorem D9x {α:Type} {l:List α}:∀ {cs:List (List α)},l ∈ cs→l.Sublist cs.flatten
 | [],h=>by cases h
 | c::cs,h=>by
  rw [List.flatten_cons]
  rcases List.mem_cons.1 h with rfl | h
  ·exact List.sublist_append_left _ _
  ·exact (D9x h).trans (List.sublist_append_right _ _)
theorem mcT (cs:List Fen.Own) (i:Nat) (a:L=cs.flatten) (b:cs[i]?=some L'):L'.Sublist L:=by
 subst a;exact D9x (List.mem_of_getElem? b)
theorem A9f {Y:Cx} {β σ:Type} {I:List β→σ→Prop} {Jx:Code→σ→Prop} {Lk:σ→Own} {Φk:σ→List Pers} {rest:List β} (s:σ) (b:I rest s) (hL:(Lk s).Sublist L) (hΦ:A7 Φ (Φk s)):JQ n Y (RP Y I Jx Lk Φk rest .normal) E L Φ :=
 fun a w c=>⟨s,b,(c.world.sub hL).foll hΦ⟩
theorem F1v {Y:Cx} {β σ:Type} {I:List β→σ→Prop} {Jx:Code→σ→Prop} {Lk:σ→Own} {Φk:σ→List Pers} {rest:List β} (s:σ) (b:Jx .ret s) (hL:(Lk s).Sublist L) (hΦ:A7 Φ (Φk s)):JQ n Y (RP Y I Jx Lk Φk rest .ret) E L Φ :=
 fun a w c=>⟨s,b,(c.world.sub hL).foll hΦ⟩
end
section
variable {P:Program} {n:Nat} {X:Cx} {K:Act→World→Prop} {Q:Exit→Act→World→Prop} {E E':bY} {L L':Own} {Φ Φ':List Pers}
def N2 (ds:List (Nat×Obj)):Prop:=(ds.map Prod.fst).Nodup∧∀ d ∈ ds,d.2=.deferred (some [])
theorem N2.nil:N2 []:=⟨List.nodup_nil,fun d a=>by cases a⟩
theorem N2.cons {d:Nat} {ds:List (Nat×Obj)} (h:N2 ds) (b:d ∉ ds.map Prod.fst):N2 ((d,.deferred (some []))::ds) :=
 ⟨by rw [List.map_cons,List.nodup_cons];exact ⟨b,h.1⟩,fun e a=>by
  rcases List.mem_cons.1 a with rfl | a
  ·rfl
  ·exact h.2 e a⟩
theorem E9y {c:Code} {β:Type} (I:β→Prop) (Ei:β→bY) (Li:β→Own) (Φi:β→List Pers) (μ:β→Nat) (b:β) (r:N2 X.D) (o:I b) (hE:O1 E (Ei b)) (hL:(Li b).Sublist L) (hΦ:A7 Φ (Φi b))
  (h:∀ x ds,N2 ds→I x→J P n (X.wd ds) c (Exit.then (fun a w=>∃ y ds,N2 ds∧I y∧μ y<μ x∧St n (X.wd ds) (Ei y) (Li y) (Φi y) a w) Q) (Ei x) (Li x) (Φi x)):J P n X (.loop c) Q E L Φ:=by
 intro a w f
 refine wpIn_loop_ghost (fun k a w=>∃ x ds,N2 ds∧I x∧μ x=k∧St n (X.wd ds) (Ei x) (Li x) (Φi x) a w) (μ b) ⟨b,X.D,r,o,rfl,f.size,f.defers,f.has.weaken (N7 hE),(f.world.sub hL).foll hΦ⟩ ?_
 rintro k a w ⟨x,ds,j,s,rfl,m⟩
 refine Code.wpIn_mono (fun e a w q=>?_) (h x ds j s a w m)
 cases e with
 | normal=>obtain ⟨y,l,d,g,p,i⟩:=q;exact ⟨μ y,p,y,l,d,g,rfl,i⟩
 | _=>exact q
end
def D9 (s:Slc):List Value:=[.slice s.q s.n s.k]
def D5 {α:Type} (c:α→List Value) (rs:List Slc) (xss:List (List α)):Pers:=⟨fun h=>∀ (i:Nat) r xs,rs[i]?=some r→xss[i]?=some xs→(sl c r.q xs).p h,fun {h h'} hl hp i r xs h1 h2=>(sl c r.q xs).mono hl (hp i r xs h1 h2)⟩
def B4 {α:Type} (rs:List Slc) (xss:List (List α)):Prop:=rs.length=xss.length∧∀ (i:Nat) r xs,rs[i]?=some r→xss[i]?=some xs→r.n=xs.length∧r.n≤r.k∧xs.length≤9223372036854775807
section
variable {P:Program} {n:Nat} {X:Cx} {K:Act→World→Prop} {Q:Exit→Act→World→Prop} {E E':bY} {L L':Own} {Φ Φ':List Pers}
theorem F0r {α:Type} {c:α→List Value} {rs:List Slc} {xss:List (List α)} (j:Nat) (h:Φ[j]?=some (D5 c rs xss)) {i:Nat} {r:Slc} {xs:List α} (hr:rs[i]?=some r) (b:xss[i]?=some xs):V3 Φ (sl c r.q xs) :=
 fun p a=>a _ (List.mem_of_getElem? h) i r xs hr b
theorem Y0 (c:L.Perm L') (h:JQ n X K E L' Φ):JQ n X K E L Φ:=fun a w b=>h a w ⟨b.size,b.defers,b.has,b.world.perm c⟩
theorem A6c {c:Code} {q:Pers} (a:V3 Φ q) (h:J P n X c Q E L (q::Φ)):J P n X c Q E L Φ:=F1y q a h
theorem D7 {ops:Array Oper} {i m:Nat} {q:Pers} (a:V3 Φ q) (h:JI P n X ops i m K Q E L (q::Φ)):JI P n X ops i m K Q E L Φ:=F0f q a h
theorem C9x {ops:Array Oper} {i m:Nat} {q:Pers} (c:V3 Φ q) (h:JD P n X ops i m K E L (q::Φ)):JD P n X ops i m K E L Φ:=by
 intro a g f j
 have e:cE X L (q::Φ)=cE X L Φ:=by
  funext w
  refine propext ⟨fun b=>b.foll fun p d q c=>d q (List.mem_cons_of_mem _ c),fun b=>b.fact q c⟩
 have:=h a g f j
 rw [e] at this
 exact this
end
theorem bt {ρ:Type} {c:Bool} {a b R:ρ} (h:(bif c then a else b)=R) (d:c=true):a=R:=by rw [d] at h;exact h
theorem bf {ρ:Type} {c:Bool} {a b R:ρ} (h:(bif c then a else b)=R) (d:c=false):b=R:=by rw [d] at h;exact h
theorem gd {α:Type} {xs:List α} {k:Nat} (d:α) (h:k<xs.length):xs[k]?=some (xs.getD k d):=by
 rw [List.getElem?_eq_getElem h];simp [h]
theorem A1b {α:Type} {xs:List α} {k:Nat} (d:α) (h:k<xs.length):xs.drop k=xs.getD k d::xs.drop (k+1):=by
 rw [List.drop_eq_getElem_cons h];congr 1;simp [h]
theorem A1d {α:Type} {xs:List α} {k:Nat} (h:¬ ((k:Int)<(xs.length:Int))):xs.drop k=[]:=List.drop_eq_nil_of_le opx
section
variable {P:Program} {n:Nat} {X:Cx} {K:Act→World→Prop} {Q:Exit→Act→World→Prop} {E E':bY} {L L':Own} {Φ Φ':List Pers}
theorem E1h {x y:Code} {β:Type} (I:β→Prop) (Ei:β→bY) (Li:β→Own) (Φi:β→List Pers)
  (g:J P n X x (Exit.then (fun a w=>∃ y,I y∧St n X (Ei y) (Li y) (Φi y) a w) Q) E L Φ) (b:∀ z,I z→J P n X y Q (Ei z) (Li z) (Φi z)):J P n X (.seq x y) Q E L Φ :=
 fun a w f=>wpIn_seq (Code.wpIn_mono (fun e a w q=>by
  cases e with
  | normal=>obtain ⟨z,d,c⟩:=q;exact b z d a w c
  | _=>exact q) (g a w f))
theorem JL1 {c:Code} {β1:Type} (I:β1→Prop) (Ei:β1→bY) (Li:β1→Own) (Φi:β1→List Pers) (μ:β1→Nat) (b:β1) (f:I b) (hE:O1 E (Ei b)) (hL:(Li b).Sublist L) (hΦ:A7 Φ (Φi b))
  (h:∀ b,I b→J P n X c (Exit.then (fun a w=>∃ d,I d∧μ d<μ b∧St n X (Ei d) (Li d) (Φi d) a w) Q) (Ei b) (Li b) (Φi b)):J P n X (.loop c) Q E L Φ :=
 C9g (β:=β1) (fun x=>I x) (fun x=>Ei x) (fun x=>Li x) (fun x=>Φi x) (fun x=>μ x) b f hE hL hΦ fun x k a w j=>Code.wpIn_mono (fun e a w q=>by
  cases e with
  | normal=>obtain ⟨d,l,g,i⟩:=q;exact ⟨d,l,g,i⟩
  | _=>exact q) (h x k a w j)
theorem JS1 {x y:Code} {β1:Type} (I:β1→Prop) (Ei:β1→bY) (Li:β1→Own) (Φi:β1→List Pers)
  (j:J P n X x (Exit.then (fun a w=>∃ b,I b∧St n X (Ei b) (Li b) (Φi b) a w) Q) E L Φ) (f:∀ c,I c→J P n X y Q (Ei c) (Li c) (Φi c)):J P n X (.seq x y) Q E L Φ :=
 E1h (β:=β1) (fun x=>I x) (fun x=>Ei x) (fun x=>Li x) (fun x=>Φi x) (fun a w i=>Code.wpIn_mono (fun e a w q=>by
  cases e with
  | normal=>obtain ⟨b,h,g⟩:=q;exact ⟨b,h,g⟩
  | _=>exact q) (j a w i)) fun x d=>f x d
theorem F6l {c:Code} {β1 β2 β3:Type} (I:β1→β2→β3→Prop) (Ei:β1→β2→β3→bY) (Li:β1→β2→β3→Own) (Φi:β1→β2→β3→List Pers) (μ:β1→β2→β3→Nat) (f:β1) (d:β2) (b:β3) (t:N2 X.D) (m:I f d b) (hE:O1 E (Ei f d b)) (hL:(Li f d b).Sublist L) (hΦ:A7 Φ (Φi f d b))
  (h:∀ f d b ds,N2 ds→I f d b→J P n (X.wd ds) c (Exit.then (fun a w=>∃ g j i ds,N2 ds∧I g j i∧μ g j i<μ f d b∧St n (X.wd ds) (Ei g j i) (Li g j i) (Φi g j i) a w) Q) (Ei f d b) (Li f d b) (Φi f d b)):J P n X (.loop c) Q E L Φ :=
 E9y (β:=β1×β2×β3) (fun x=>I x.1 x.2.1 x.2.2) (fun x=>Ei x.1 x.2.1 x.2.2) (fun x=>Li x.1 x.2.1 x.2.2) (fun x=>Φi x.1 x.2.1 x.2.2) (fun x=>μ x.1 x.2.1 x.2.2) (f,d,b) t m hE hL hΦ fun x ds k u a w s=>Code.wpIn_mono (fun e a w q=>by
  cases e with
  | normal=>obtain ⟨g,j,i,l,p,v,o,r⟩:=q;exact ⟨(g,j,i),l,p,v,o,r⟩
  | _=>exact q) (h x.1 x.2.1 x.2.2 ds k u a w s)
theorem E7v {X':Cx} {β1 β2 β3:Type} {I:β1→β2→β3→Prop} {Ei:β1→β2→β3→bY} {Li:β1→β2→β3→Own} {Φi:β1→β2→β3→List Pers} {μ:β1→β2→β3→Nat} {z1:β1} {z2:β2} {z3:β3} (hX:X'=X.wd X'.D) (k:N2 X'.D) (b:β1) (d:β2) (c:β3) (j:I b d c) (hμ:μ b d c<μ z1 z2 z3) (hE:O1 E (Ei b d c)) (hL:(Li b d c).Sublist L) (hΦ:A7 Φ (Φi b d c)) :
  JQ n X' (fun a w=>∃ i f g ds,N2 ds∧I i f g∧μ i f g<μ z1 z2 z3∧St n (X.wd ds) (Ei i f g) (Li i f g) (Φi i f g) a w) E L Φ :=
 fun _ _ e=>by
  rw [hX] at e
  exact ⟨b,d,c,X'.D,k,j,hμ,e.size,e.defers,e.has.weaken (N7 hE),(e.world.sub hL).foll hΦ⟩
theorem JL4 {c:Code} {β1 β2 β3 β4:Type} (I:β1→β2→β3→β4→Prop) (Ei:β1→β2→β3→β4→bY) (Li:β1→β2→β3→β4→Own) (Φi:β1→β2→β3→β4→List Pers) (μ:β1→β2→β3→β4→Nat) (g:β1) (f:β2) (d:β3) (b:β4) (m:I g f d b) (hE:O1 E (Ei g f d b)) (hL:(Li g f d b).Sublist L) (hΦ:A7 Φ (Φi g f d b))
  (h:∀ g f d b,I g f d b→J P n X c (Exit.then (fun a w=>∃ i l k j,I i l k j∧μ i l k j<μ g f d b∧St n X (Ei i l k j) (Li i l k j) (Φi i l k j) a w) Q) (Ei g f d b) (Li g f d b) (Φi g f d b)):J P n X (.loop c) Q E L Φ :=
 C9g (β:=β1×β2×β3×β4) (fun x=>I x.1 x.2.1 x.2.2.1 x.2.2.2) (fun x=>Ei x.1 x.2.1 x.2.2.1 x.2.2.2) (fun x=>Li x.1 x.2.1 x.2.2.1 x.2.2.2) (fun x=>Φi x.1 x.2.1 x.2.2.1 x.2.2.2) (fun x=>μ x.1 x.2.1 x.2.2.1 x.2.2.2) (g,f,d,b) m hE hL hΦ fun x s a w r=>Code.wpIn_mono (fun e a w q=>by
  cases e with
  | normal=>obtain ⟨i,l,k,j,t,o,p⟩:=q;exact ⟨(i,l,k,j),t,o,p⟩
  | _=>exact q) (h x.1 x.2.1 x.2.2.1 x.2.2.2 s a w r)
theorem JS4 {x y:Code} {β1 β2 β3 β4:Type} (I:β1→β2→β3→β4→Prop) (Ei:β1→β2→β3→β4→bY) (Li:β1→β2→β3→β4→Own) (Φi:β1→β2→β3→β4→List Pers)
  (p:J P n X x (Exit.then (fun a w=>∃ b f d c,I b f d c∧St n X (Ei b f d c) (Li b f d c) (Φi b f d c) a w) Q) E L Φ) (l:∀ j i h g,I j i h g→J P n X y Q (Ei j i h g) (Li j i h g) (Φi j i h g)):J P n X (.seq x y) Q E L Φ :=
 E1h (β:=β1×β2×β3×β4) (fun x=>I x.1 x.2.1 x.2.2.1 x.2.2.2) (fun x=>Ei x.1 x.2.1 x.2.2.1 x.2.2.2) (fun x=>Li x.1 x.2.1 x.2.2.1 x.2.2.2) (fun x=>Φi x.1 x.2.1 x.2.2.1 x.2.2.2) (fun a w o=>Code.wpIn_mono (fun e a w q=>by
  cases e with
  | normal=>obtain ⟨b,f,d,c,r,m⟩:=q;exact ⟨(b,f,d,c),r,m⟩
  | _=>exact q) (p a w o)) fun x k=>l x.1 x.2.1 x.2.2.1 x.2.2.2 k
theorem JL5 {c:Code} {β1 β2 β3 β4 β5:Type} (I:β1→β2→β3→β4→β5→Prop) (Ei:β1→β2→β3→β4→β5→bY) (Li:β1→β2→β3→β4→β5→Own) (Φi:β1→β2→β3→β4→β5→List Pers) (μ:β1→β2→β3→β4→β5→Nat) (i:β1) (f:β2) (d:β3) (b:β4) (g:β5) (p:I i f d b g) (hE:O1 E (Ei i f d b g)) (hL:(Li i f d b g).Sublist L) (hΦ:A7 Φ (Φi i f d b g))
  (h:∀ i f d b g,I i f d b g→J P n X c (Exit.then (fun a w=>∃ j m l k o,I j m l k o∧μ j m l k o<μ i f d b g∧St n X (Ei j m l k o) (Li j m l k o) (Φi j m l k o) a w) Q) (Ei i f d b g) (Li i f d b g) (Φi i f d b g)):J P n X (.loop c) Q E L Φ :=
 C9g (β:=β1×β2×β3×β4×β5) (fun x=>I x.1 x.2.1 x.2.2.1 x.2.2.2.1 x.2.2.2.2) (fun x=>Ei x.1 x.2.1 x.2.2.1 x.2.2.2.1 x.2.2.2.2) (fun x=>Li x.1 x.2.1 x.2.2.1 x.2.2.2.1 x.2.2.2.2) (fun x=>Φi x.1 x.2.1 x.2.2.1 x.2.2.2.1 x.2.2.2.2) (fun x=>μ x.1 x.2.1 x.2.2.1 x.2.2.2.1 x.2.2.2.2) (i,f,d,b,g) p hE hL hΦ fun x u a w t=>Code.wpIn_mono (fun e a w q=>by
  cases e with
  | normal=>obtain ⟨j,m,l,k,o,v,r,s⟩:=q;exact ⟨(j,m,l,k,o),v,r,s⟩
  | _=>exact q) (h x.1 x.2.1 x.2.2.1 x.2.2.2.1 x.2.2.2.2 u a w t)
theorem JL6 {c:Code} {β1 β2 β3 β4 β5 β6:Type} (I:β1→β2→β3→β4→β5→β6→Prop) (Ei:β1→β2→β3→β4→β5→β6→bY) (Li:β1→β2→β3→β4→β5→β6→Own) (Φi:β1→β2→β3→β4→β5→β6→List Pers) (μ:β1→β2→β3→β4→β5→β6→Nat) (j:β1) (f:β2) (d:β3) (b:β4) (g:β5) (i:β6) (s:I j f d b g i) (hE:O1 E (Ei j f d b g i)) (hL:(Li j f d b g i).Sublist L) (hΦ:A7 Φ (Φi j f d b g i))
  (h:∀ j f d b g i,I j f d b g i→J P n X c (Exit.then (fun a w=>∃ l p o m r k,I l p o m r k∧μ l p o m r k<μ j f d b g i∧St n X (Ei l p o m r k) (Li l p o m r k) (Φi l p o m r k) a w) Q) (Ei j f d b g i) (Li j f d b g i) (Φi j f d b g i)):J P n X (.loop c) Q E L Φ :=
 C9g (β:=β1×β2×β3×β4×β5×β6) (fun x=>I x.1 x.2.1 x.2.2.1 x.2.2.2.1 x.2.2.2.2.1 x.2.2.2.2.2) (fun x=>Ei x.1 x.2.1 x.2.2.1 x.2.2.2.1 x.2.2.2.2.1 x.2.2.2.2.2) (fun x=>Li x.1 x.2.1 x.2.2.1 x.2.2.2.1 x.2.2.2.2.1 x.2.2.2.2.2) (fun x=>Φi x.1 x.2.1 x.2.2.1 x.2.2.2.1 x.2.2.2.2.1 x.2.2.2.2.2) (fun x=>μ x.1 x.2.1 x.2.2.1 x.2.2.2.1 x.2.2.2.2.1 x.2.2.2.2.2) (j,f,d,b,g,i) s hE hL hΦ fun x y a w v=>Code.wpIn_mono (fun e a w q=>by
  cases e with
  | normal=>obtain ⟨l,p,o,m,r,k,z,t,u⟩:=q;exact ⟨(l,p,o,m,r,k),z,t,u⟩
  | _=>exact q) (h x.1 x.2.1 x.2.2.1 x.2.2.2.1 x.2.2.2.2.1 x.2.2.2.2.2 y a w v)
theorem JL7 {c:Code} {β1 β2 β3 β4 β5 β6 β7:Type} (I:β1→β2→β3→β4→β5→β6→β7→Prop) (Ei:β1→β2→β3→β4→β5→β6→β7→bY) (Li:β1→β2→β3→β4→β5→β6→β7→Own) (Φi:β1→β2→β3→β4→β5→β6→β7→List Pers) (μ:β1→β2→β3→β4→β5→β6→β7→Nat) (k:β1) (g:β2) (d:β3) (b:β4) (i:β5) (j:β6) (f:β7) (y:I k g d b i j f) (hE:O1 E (Ei k g d b i j f)) (hL:(Li k g d b i j f).Sublist L) (hΦ:A7 Φ (Φi k g d b i j f))
  (h:∀ k g d b i j f,I k g d b i j f→J P n X c (Exit.then (fun a w=>∃ m t o s p r l,I m t o s p r l∧μ m t o s p r l<μ k g d b i j f∧St n X (Ei m t o s p r l) (Li m t o s p r l) (Φi m t o s p r l) a w) Q) (Ei k g d b i j f) (Li k g d b i j f) (Φi k g d b i j f)):J P n X (.loop c) Q E L Φ :=
 C9g (β:=β1×β2×β3×β4×β5×β6×β7) (fun x=>I x.1 x.2.1 x.2.2.1 x.2.2.2.1 x.2.2.2.2.1 x.2.2.2.2.2.1 x.2.2.2.2.2.2) (fun x=>Ei x.1 x.2.1 x.2.2.1 x.2.2.2.1 x.2.2.2.2.1 x.2.2.2.2.2.1 x.2.2.2.2.2.2) (fun x=>Li x.1 x.2.1 x.2.2.1 x.2.2.2.1 x.2.2.2.2.1 x.2.2.2.2.2.1 x.2.2.2.2.2.2) (fun x=>Φi x.1 x.2.1 x.2.2.1 x.2.2.2.1 x.2.2.2.2.1 x.2.2.2.2.2.1 x.2.2.2.2.2.2) (fun x=>μ x.1 x.2.1 x.2.2.1 x.2.2.2.1 x.2.2.2.2.1 x.2.2.2.2.2.1 x.2.2.2.2.2.2) (k,g,d,b,i,j,f) y hE hL hΦ fun x hx a w hs=>Code.wpIn_mono (fun e a w q=>by
  cases e with
  | normal=>obtain ⟨m,t,o,s,p,r,l,v,u,z⟩:=q;exact ⟨(m,t,o,s,p,r,l),v,u,z⟩
  | _=>exact q) (h x.1 x.2.1 x.2.2.1 x.2.2.2.1 x.2.2.2.2.1 x.2.2.2.2.2.1 x.2.2.2.2.2.2 hx a w hs)
theorem JS7 {x y:Code} {β1 β2 β3 β4 β5 β6 β7:Type} (I:β1→β2→β3→β4→β5→β6→β7→Prop) (Ei:β1→β2→β3→β4→β5→β6→β7→bY) (Li:β1→β2→β3→β4→β5→β6→β7→Own) (Φi:β1→β2→β3→β4→β5→β6→β7→List Pers)
  (z:J P n X x (Exit.then (fun a w=>∃ f h g d i b c,I f h g d i b c∧St n X (Ei f h g d i b c) (Li f h g d i b c) (Φi f h g d i b c) a w) Q) E L Φ) (t:∀ r m k j o p l,I r m k j o p l→J P n X y Q (Ei r m k j o p l) (Li r m k j o p l) (Φi r m k j o p l)):J P n X (.seq x y) Q E L Φ :=
 E1h (β:=β1×β2×β3×β4×β5×β6×β7) (fun x=>I x.1 x.2.1 x.2.2.1 x.2.2.2.1 x.2.2.2.2.1 x.2.2.2.2.2.1 x.2.2.2.2.2.2) (fun x=>Ei x.1 x.2.1 x.2.2.1 x.2.2.2.1 x.2.2.2.2.1 x.2.2.2.2.2.1 x.2.2.2.2.2.2) (fun x=>Li x.1 x.2.1 x.2.2.1 x.2.2.2.1 x.2.2.2.2.1 x.2.2.2.2.2.1 x.2.2.2.2.2.2) (fun x=>Φi x.1 x.2.1 x.2.2.1 x.2.2.2.1 x.2.2.2.2.1 x.2.2.2.2.2.1 x.2.2.2.2.2.2) (fun a w v=>Code.wpIn_mono (fun e a w q=>by
  cases e with
  | normal=>obtain ⟨f,h,g,d,i,b,c,h1,u⟩:=q;exact ⟨(f,h,g,d,i,b,c),h1,u⟩
  | _=>exact q) (z a w v)) fun x s=>t x.1 x.2.1 x.2.2.1 x.2.2.2.1 x.2.2.2.2.1 x.2.2.2.2.2.1 x.2.2.2.2.2.2 s
end
def H5 (n:Int):List Value:=[.int .i64 n]
def cI (b:UInt8):List Value:=[.int .u8 (b.toNat:Int)]
def F3x (s:List UInt8):List Value:=[.string (bs s)]
def A8z (b:Bool):List Value:=[.bool b]
def by8 (n:Int):UInt8:=UInt8.ofNat n.toNat
theorem C3q {k:IntKind} {m:Int} (a:k.min≤m) (b:m≤k.max):k.wrap m=m:=A3i a b
theorem F1b (b:UInt8):(b.toNat:Int)≤255:=by have:=b.toNat_lt;omega
theorem A6g (b:UInt8):IntKind.i64.wrap (b.toNat:Int)=b.toNat:=A3i (by show (-9223372036854775808:Int)≤_;omega) (by have:=F1b b;show _≤(9223372036854775807:Int);omega)
theorem D3v {n:Int} (h:0≤n∧n≤255):((by8 n).toNat:Int)=n:=by
 unfold by8;rw [UInt8.toNat_ofNat'];omega
theorem B8p {α:Type} {x:α} {e R:List α} (h:x::e=R):∃ R',e=R'∧R=x::R':=⟨e,rfl,h.symm⟩
section
variable {P:Program} {n:Nat} {X:Cx} {K:Act→World→Prop} {Q:Exit→Act→World→Prop} {E E':bY} {L L':Own} {Φ Φ':List Pers}
theorem B0i {α:Type} {c:α→List Value}:V3 Φ (sl c none []):=fun _ _=>rfl
theorem E2t (a b:List UInt8):(a == b)=decide (a=b):=by
 by_cases h:a=b<;>simp [h]
theorem C8k (a:List UInt8):(bs a).size=a.length:=rfl
theorem C8w {o:Oper} {T U:TypeId} {x y:Operand} {a b:List UInt8} (d:o.op=.binOp .eql T x y U) (f:ev E x=some (.string (bs a))) (e:ev E y=some (.string (bs b))):J9 P X o E L Φ (.bool (decide (a=b))) :=
 .of_run fun g w c _=>by
  simp [execOp,d,D0 c f,D0 c e,eqGuard,binOp,Op.stringOp,E2t]
theorem A9v {o:Oper} {T U:TypeId} {x y:Operand} {a b:List UInt8} (d:o.op=.binOp .neq T x y U) (f:ev E x=some (.string (bs a))) (e:ev E y=some (.string (bs b))):J9 P X o E L Φ (.bool (!decide (a=b))) :=
 .of_run fun g w c _=>by
  simp [execOp,d,D0 c f,D0 c e,eqGuard,binOp,Op.stringOp,E2t]
theorem E4v (a b:List UInt8):bs a++bs b=bs (a++b):=by
 apply ByteArray.ext;simp [bs]
theorem D4f {o:Oper} {T U:TypeId} {x y:Operand} {a b:List UInt8} (e:o.op=.binOp .add T x y U) (g:ev E x=some (.string (bs a))) (f:ev E y=some (.string (bs b))) (h:a.length+b.length≤9223372036854775807):J9 P X o E L Φ (.string (bs (a++b))) :=
 .of_run fun i w c _=>by
  have d:¬ ((((bs a).size+(bs b).size:Nat):Int) > IntKind.i64.max):=by
   rw [C8k,C8k];show ¬ ((_:Int) > 9223372036854775807);omega
  simp only [execOp,e,D0 c g,D0 c f,eqGuard,binOp,Op.stringOp,if_neg d,E4v]
  rfl
theorem F3m (s:List UInt8) (k:Nat) (h:k<s.length):(bs s)[k]?=some (s.getD k 0):=by
 have:k<(bs s).size:=h
 rw [getElem?_pos (bs s) k this]
 simp only [bs,ByteArray.getElem_eq_getElem_data]
 simp [List.getD,h]
theorem E0f {o:Oper} {T:TypeId} {x y:Operand} {s:List UInt8} {m:Int} (f:P.underlying T=some .string) (c:o.op=.index T x y) (g:ev E x=some (.string (bs s))) (e:ev E y=some (.int .i64 m)) (k:Nat) (b:m=k) (d:k<s.length) :
  J9 P X o E L Φ (.int .u8 ((s.getD k 0).toNat:Int)):=.of_run fun h w a _=>by
 subst b
 have i:(0:Int)≤k:=by omega
 simp [execOp,c,D0 a g,D0 a e,Instr.index,asIntOf,run_underlying f,F3m s k d]
theorem C9j (s:List UInt8) (l h:Nat) (a:h≤s.length):(bs s).extract l h=bs ((s.drop l).take (h - l)):=by
 apply ByteArray.ext
 rw [ByteArray.data_extract]
 simp only [bs]
 apply Array.ext'
 simp
theorem D8d {o:Oper} {T:TypeId} {x i g:Operand} {s:List UInt8} {a b:Int} (r:P.underlying T=some .string) (j:o.op=.slice T x (some i) (some g) none) (p:ev E x=some (.string (bs s))) (c:ev E i=some (.int .i64 a)) (e:ev E g=some (.int .i64 b)) (l:Nat) (k:a=l) (h:Nat) (m:b=h) (t:l≤h) (f:h≤s.length) :
  J9 P X o E L Φ (.string (bs ((s.drop l).take (h - l)))):=.of_run fun u w d _=>by
 subst k m
 have q:(0:Int)≤h∧(h:Int)≤(bs s).size:=by rw [C8k];omega
 have n:(0:Int)≤l∧(l:Int)≤h:=by omega
 simp [execOp,j,D0 d p,D0 d c,D0 d e,Instr.sliceAt,Instr.slice,Instr.sliceBounds,Instr.sliceBound,asIntOf,run_underlying r,q,n,C9j s l h f,show h≤(bs s).size from f,t]
theorem C7a {o:Oper} {T:TypeId} {x e:Operand} {s:List UInt8} {b:Int} (j:P.underlying T=some .string) (f:o.op=.slice T x none (some e) none) (k:ev E x=some (.string (bs s))) (a:ev E e=some (.int .i64 b)) (h:Nat) (i:b=h) (d:h≤s.length) :
  J9 P X o E L Φ (.string (bs (s.take h))):=.of_run fun l w c _=>by
 subst i
 have g:(0:Int)≤h∧(h:Int)≤(bs s).size:=by rw [C8k];omega
 have:=C9j s 0 h d
 simp only [List.drop_zero,Nat.sub_zero] at this
 simp [execOp,f,D0 c k,D0 c a,Instr.sliceAt,Instr.slice,Instr.sliceBounds,Instr.sliceBound,asIntOf,run_underlying j,g,this,show h≤(bs s).size from d]
theorem getD_some {α:Type} {xs:List α} {k:Nat} {v d:α} (h:xs[k]?=some v):xs.getD k d=v:=by simp [List.getD,h]
theorem U4 {α:Type} {rs:List Slc} {xss:List (List α)} (a:B4 rs xss) {k:Nat} (h:k<rs.length) {d:Slc}:(Value.slice (rs.getD k d).q (rs.getD k d).n (rs.getD k d).k)=.slice (rs.getD k d).q (xss.getD k []).length (rs.getD k d).k:=by
 have c:=gd d h
 have b:xss[k]?=some (xss.getD k []):=gd [] (by have:=a.1;omega)
 rw [(a.2 k _ _ c b).1]
theorem V9 {α:Type} {rs:List Slc} {xss:List (List α)} (a:B4 rs xss) {k:Nat} (h:k<rs.length) {d:Slc}:(xss.getD k []).length≤(rs.getD k d).k∧(xss.getD k []).length≤9223372036854775807:=by
 have c:=gd d h
 have b:xss[k]?=some (xss.getD k []):=gd [] (by have:=a.1;omega)
 have:=a.2 k _ _ c b
 omega
theorem V8 {α:Type} {c:α→List Value} {rs:List Slc} {xss:List (List α)} (b:B4 rs xss) (j:Nat) (a:Φ[j]?=some (D5 c rs xss)) {k:Nat} (h:k<rs.length) {d:Slc}:V3 Φ (sl c (rs.getD k d).q (xss.getD k [])) :=
 F0r j a (gd d h) (gd [] (by have:=b.1;omega))
theorem B8f {o:Oper} {T e sz len:Nat} {agg:Bool} {x y:Operand} {a:Addr} {m:Int} (j:P.underlying T=some (.array len e)) (i:Ty P e sz agg) (c:o.op=.indexAddr T x y)
  (g:ev E x=some (.pointer (some a))) (f:ev E y=some (.int .i64 m)) (k:Nat) (h:m=k) (d:k<len):J9 P X o E L Φ (.pointer (some (a.add (k * sz)))):=.of_run fun n w b _=>by
 subst h
 have l:(0:Int)≤k∧(k:Int)<len:=by omega
 simp [execOp,c,D0 b g,D0 b f,Instr.indexAt,asIntOf,run_underlying j,Instr.sureAddr,i.size,l,Nat.not_le.2 d]
def B2x (q:Option Addr) (l sz m:Nat):Option Addr:=if m=l then q else q.map (·.add (l * sz))
def SB (E:bY) (o:Option Operand) (d v:Nat):Prop:=match o with | none=>v=d | some x=>∃ m,ev E x=some (.int .i64 m)∧m=(v:Int)
theorem A1u {d:Nat}:SB E none d d:=rfl
theorem A0w {x:Operand} {m:Int} {d v:Nat} (h:ev E x=some (.int .i64 m)) (a:m=v):SB E (some x) d v:=⟨m,h,a⟩
theorem A7f {a:Act} (e:Has a E) {x:Operand} {d v y:Nat} (h:SB E (some x) d v) (i:v≤y) (b:BoundsCode) (w:World):(Instr.sliceBound (a.eval x) y b).run P w=.ok v w:=by
 obtain ⟨m,g,f⟩:=h
 subst f
 have c:(0:Int)≤v∧(v:Int)≤y:=by omega
 simp [Instr.sliceBound,D0 e g,asIntOf,c]
theorem B1k {o:Oper} {T e sz:Nat} {x:Operand} {f d i:Option Operand} {q:Option Addr} {len cap:Nat} (hT:SlTy P T e sz) (ho:o.op=.slice T x f d i) (hx:ev E x=some (.slice q len cap)) (l h m:Nat) (c:SB E f 0 l) (g:SB E d len h) (r:SB E i cap m)
  (n:l≤h) (j:h≤m) (v:m≤cap) {n':Nat} (hn:n'=h - l) (u:(i.isSome&&!d.isSome)=false):J9 P X o E L Φ (.slice (B2x q l sz m) n' (m - l)):=.of_run fun t w b _=>by
 subst hn
 have k:(Instr.sliceBounds true len cap (f.map t.eval) (d.map t.eval) (i.map t.eval)).run P w=.ok (l,h,m) w:=by
  unfold Instr.sliceBounds
  cases i with
  | none =>
   have p:m=cap:=r
   subst p
   cases d with
   | none =>
    have s:h=len:=g
    subst s
    cases f with
    | none=>have a:l=0:=c;subst a;simp
    | some z=>simp [A7f b c n]
   | some y =>
    cases f with
    | none=>have a:l=0:=c;subst a;simp [A7f b g j]
    | some z=>simp [A7f b c n,A7f b g j]
  | some z =>
   cases d with
   | none=>simp at u
   | some y =>
    cases f with
    | none=>have a:l=0:=c;subst a;simp [A7f b g j,A7f b r v]
    | some z=>simp [A7f b c n,A7f b g j,A7f b r v]
 simp only [execOp,ho,Sem.run_bind,D0 b hx,Instr.sliceAt,Instr.slice,run_underlying hT.ty,Result.andThen_ok,k,hT.run,B2x]
 rfl
theorem F6b (q:Option Addr) (sz m:Nat):B2x q 0 sz m=q:=by
 unfold B2x;split
 ·rfl
 ·cases q<;>simp [Addr.add]
theorem B7b {o:Oper} {T e sz:Nat} {x:Operand} {b d:Option Operand} {q:Option Addr} {a cap:Nat} (n:SlTy P T e sz) (f:o.op=.slice T x none b d) (k:ev E x=some (.slice q a cap)) (h m:Nat) (g:SB E b a h) (l:SB E d cap m)
  (i:h≤m) (j:m≤cap) {n':Nat} (p:n'=h) (c:(d.isSome&&!b.isSome)=false):J9 P X o E L Φ (.slice q n' m):=by
 have:=B1k (L:=L) (Φ:=Φ) (X:=X) n f k 0 h m A1u g l (Nat.zero_le _) i j (n':=n') opx c
 rwa [F6b] at this
theorem E0q {α:Type} {c:α→List Value} {sz:Nat} {q:Option Addr} {xs:List α} (h:V3 Φ (sl c q xs)) (l k m:Nat) (s:∀ x,(c x).length=sz) {ys:List α} (i:ys=(xs.drop l).take (k - l)) (r:l≤xs.length) (u:k≤m):V3 Φ (sl c (B2x q l sz m) ys):=fun p f=>by
 subst i
 have:=h p f
 unfold B2x
 split
 ·rename_i e
  subst e
  rw [show k - m=0 by omega,List.take_zero]
  cases q with
  | none=>rfl
  | some a=>exact .inl rfl
 ·cases q with
  | none=>have e:xs=[]:=this;subst e;simp [sl]
  | some a =>
   obtain ⟨b,of,t⟩:=a
   obtain o | ⟨h0,cc,T,fr,h3,h4⟩:=this
   ·exact .inl (List.flatMap_eq_nil_iff.2 fun x n=>List.flatMap_eq_nil_iff.1 o x (List.mem_of_mem_drop (List.mem_of_mem_take n)))
   simp only at h0 h3 h4
   subst h0
   simp only [Option.map_some,A1o]
   refine .inr ⟨rfl,cc,T,fr,h3,fun j v d=>?_⟩
   have e:xs.flatMap c=(xs.take l).flatMap c++((((xs.drop l).take (k - l)).flatMap c)++((xs.drop l).drop (k - l)).flatMap c):=by
    rw [← List.flatMap_append,← List.flatMap_append,List.take_append_drop,List.take_append_drop]
   have g:((xs.take l).flatMap c).length=l * sz:=by rw [G3 s,List.length_take,Nat.min_eq_left r]
   simp only
   rw [Nat.add_assoc]
   refine h4 _ _ ?_
   rw [e,List.getElem?_append_right opx,g,Nat.add_sub_cancel_left,List.getElem?_append_left (List.getElem?_eq_some_iff.1 d).1]
   exact d
theorem S7 {o:Oper} {c:Call} {T e sz d:Nat} {x y:Operand} {α:Type} {f:α→List Value} {r:VR} {xs ys:List α} {a:Addr} {m cc:Nat} {pre post:Own} (v:ApTy P T e sz d) (l:∀ x,(f x).length=sz) (i:∀ x,(f x).all (·.oneCell')=true)
  (p:o.op=.call c) (w:c.callee=.builtin .append) (g:c.args=#[x,y]) (j:c.argTypes=#[T,T]) (s:ev E x=some (vv r xs.length)) (q:ev E y=some (.slice (some a) m cc)) (z:True=True) (t:m=ys.length) (hL:L=pre++(vo f e r xs++post))
  (u:V3 Φ (sl f (some a) ys)) (h:bT sz xs.length r) (hb:(xs.length+ys.length) * d≤140737488355328) (k:xs.length+ys.length≤9223372036854775807) :
  Tri P n X o E L Φ {b:VR // bT sz (xs++ys).length b} (fun b=>vv b.1 (xs++ys).length) (fun b=>pre++(vo f e b.1 (xs++ys)++post)) (fun _=>Φ):=by
 rw [List.length_append]
 exact E0o v l i p w g j s q t hL u h hb k
theorem D9u {w:World} {b:Nat} {T ty e:TypeId} {i:TypeInfo} {size:Nat} (f:P.underlying T=some (.slice e)) (h:P.info? e=some i)
  {v:Value} {n:Nat} {xs:List Value} (a:w.ownsRow b e size v n xs) (c:Nat):(Builtin.append_ #[T,T] ty #[v,.slice none 0 c]).run P w=.ok v w:=by
 rcases a.2 with ⟨rfl,rfl⟩ | ⟨g,cap,cur,rfl,_,_,d,_⟩
 ·simp [Builtin.append_,run_underlying f,sizeOf,typeInfo,h,Builtin.lenOf,Builtin.firstCells]
 ·simp [Builtin.append_,run_underlying f,sizeOf,typeInfo,h,Builtin.lenOf,Builtin.firstCells,d,storeCells]
theorem F0o {T e sz d:Nat} (i:ApTy P T e sz d) {α:Type} {f:α→List Value} (c:∀ x,(f x).length=sz) {r:VR} {xs:List α} {pre post:Own} {w:World} (g:cE X (pre++(vo f e r xs++post)) Φ w) (a:bT sz xs.length r) :
  w.ownsRow 0 e sz (vv r xs.length) xs.length (xs.flatMap f):=by
 obtain ⟨p,h⟩:=g
 refine ⟨G3 c _,?_⟩
 unfold bT at a
 split at a
 ·rename_i hq0
  refine .inl ⟨?_,a.1⟩
  unfold vv va
  rw [hq0,a.1,a.2]
 ·rename_i b hq0
  refine .inr ⟨b,_,(xs.flatMap f++r.j).toArray,?_,Nat.zero_le _,?_,a.2.1,a.2.2,?_,?_⟩
  ·unfold vv va;rw [hq0]
  ·have:=h.own.1 (bx b (xs.flatMap f++r.j) e) (List.mem_append_right _ (List.mem_append_left _ (by unfold vo;rw [hq0];simp)))
   exact this.1
  ·simp only [List.size_toArray,List.length_append,G3 c];exact a.1
  ·rw [← G3 c xs];simp
theorem A4i {o:Oper} {c:Call} {T e sz j:Nat} {x y:Operand} {α:Type} {f:α→List Value} {r:VR} {xs ys:List α} {q:Option Addr} {m cc:Nat} {pre post:Own} (k:ApTy P T e sz j) (hf:∀ x,(f x).length=sz) (a0:∀ x,(f x).all (·.oneCell')=true)
  (v:o.op=.call c) (hc:c.callee=.builtin .append) (g:c.args=#[x,y]) (h:c.argTypes=#[T,T]) (hx:ev E x=some (vv r xs.length)) (hy:ev E y=some (.slice q m cc)) (z:m=ys.length) (hL:L=pre++(vo f e r xs++post))
  (hq:V3 Φ (sl f q ys)) (b:bT sz xs.length r) (hb:(xs.length+ys.length) * j≤140737488355328) (t:xs.length+ys.length≤9223372036854775807) :
  Tri P n X o E L Φ {d:VR // bT sz (xs++ys).length d} (fun d=>vv d.1 (xs++ys).length) (fun d=>pre++(vo f e d.1 (xs++ys)++post)) (fun _=>Φ):=by
 cases q with
 | some a=>exact S7 k hf a0 v hc g h hx hy rfl z hL hq b hb t
 | none =>
  intro ac w K Q l hk
  obtain ⟨p,hp⟩:=l.world
  have s:ys=[]:=hq p hp.facts
  subst s
  simp only [List.length_nil] at z
  subst z
  have u:=l.world
  rw [hL] at u
  obtain ⟨i,hi,_⟩:=Option.map_eq_some_iff.1 k.info
  refine A8v (by rw [v];rfl) ?_
  unfold Oper.wp
  rw [show (execOp ac.eval o).run P w=.ok (.value (vv r xs.length)) w by
   simp [execOp,v,resolve,hc,g,h,D0 l.has hx,D0 l.has hy,invoke,builtin,D9u (P:=P) (ty:=o.type) k.ty hi (F0o k hf u b) cc]]
  have:=hk ⟨r,by simpa using b⟩ w (by simpa using u)
  exact (by simpa using this:K (ac.put o.dst (vv r xs.length)) w)
theorem bT.cap {sz n:Nat} {r:VR} (h:bT sz n r):n≤r.k:=by
 unfold bT at h
 split at h
 ·omega
 ·exact h.2.1
theorem bT.le {sz n:Nat} {r:VR} (h:bT sz n r):n≤9223372036854775807:=by
 unfold bT at h
 split at h
 ·omega
 ·exact Nat.le_trans h.2.1 h.2.2
theorem L6 {o:Oper} {c:Call} {g:Operand} {k:FuncId} {first cap:Array Value} {f args:List Value} {L0 L2:Own} {Φ0:List Pers} {α:Type} {val:α→Value} {L1:α→Own} {Φ1:α→List Pers}
  (d:Con P k args L0 Φ0 α val L1 Φ1) (l:o.op=.call c) (r:c.callee=.value g) (j:ev E g=some (.func (.func k) first cap)) (b:c.args.toList.mapM (ev E)=some f) (q:(first++f.toArray++cap).toList=args)
  (hΦ:A7 Φ Φ0) (hL:L.Perm (L0++L2)) (L':α→Own) (e:∀ x,(L1 x++L2).Perm (L' x)):Tri P n X o E L Φ α val L' (fun x=>Φ1 x++Φ):=by
 intro a w K Q m p
 exact D9d d l r j b q hΦ hL a w K Q m fun x w' i=>p x _ (i.perm (e x))
theorem B2z {o:Oper} {T e sz d:Nat} {ps:Array (Nat×Operand)} {vs:List (Nat×Value)} {α:Type} {c:α→List Value} {xs:List α} (p:SlTy P T e sz) (g:Nat.blt 0 (d * sz)=true) (l:o.op=.buildSlice T d ps) (q:B5r E ps.toList=some vs)
  (f:(if d * sz > 2 ^ 24 then none else match (P.info? e).bind (·.zero) with
   | some z=>Instr.fill (fun i=>some (i * sz,sz)) ((Array.range (d * sz)).map (z.cells[· % z.cells.size]!)) vs
   | none=>none)=some (xs.flatMap c++[]).toArray) :
  Tri P n X o E L Φ Nat (fun b=>.slice (some ⟨b,0,none⟩) d d) (fun b=>bx b (xs.flatMap c++[]) e::L) (fun _=>Φ):=by
 intro a w K Q m u
 have t:(ps.map fun (x:Nat×Operand)=>(x.1,a.eval x.2)).toList=vs:=by simpa using B3c m.has q
 split at f
 ·cases f
 ·rename_i j
  split at f
  ·rename_i z v
   obtain ⟨i,s,k⟩:=Option.bind_eq_some_iff.1 v
   have h:(zeroValue e).run P w=.ok z w:=by simp [zeroValue,B2e s,k]
   have hr:(execOp a.eval o).run P w=.ok (.value (.slice (some ⟨w.heap.size,0,none⟩) d d)) (w.alloc (.cells (xs.flatMap c++[]).toArray e (0,0))):=by
    have r:¬ d * sz=0:=by
     have:0<d * sz:=by simpa [Nat.blt_eq] using g
     omega
    simp only [execOp,l,Instr.buildSlice,Sem.run_bind,run_underlying p.ty,Result.andThen_ok,p.run,j,r,Sem.run_ite,if_false,h,Sem.run_pure,t,f,newRow,run_newObj]
    rfl
   refine A8v (by rw [l];rfl) ?_
   unfold Oper.wp
   rw [hr]
   exact u _ _ (m.world.alloc _)
  ·cases f
theorem E5v {o:Oper} {T U:TypeId} {x y:Operand} {k:IntKind} {a b c:Int} (d:o.op=.binOp .rem T x y U) (f:ev E x=some (.int k a)) (e:ev E y=some (.int k b)) (hb:0<b) (h:0≤a∧a % b=c):J9 P X o E L Φ (.int k c) :=
 E2d d f e opx (by rw [Int.tmod_eq_emod_of_nonneg h.1];exact h.2)
theorem E8u {o:Oper} {T U:TypeId} {x y:Operand} {k:IntKind} {a b c:Int} (d:o.op=.binOp .quo T x y U) (f:ev E x=some (.int k a)) (e:ev E y=some (.int k b)) (hb:0<b) (h:(0≤a∧a≤k.max)∧a / b=c):J9 P X o E L Φ (.int k c):=by
 have g:a / b≤a:=Int.ediv_le_self b h.1.1
 have i:0≤a / b:=Int.ediv_nonneg h.1.1 opx
 refine F0k d f e opx (by rw [Int.tdiv_eq_ediv_of_nonneg h.1.1];exact h.2) ?_ (by have:=h.1.2;omega)
 have:k.min≤0:=by cases k<;>decide
 omega
theorem D6m (s:List UInt8) (j:Nat) (a:j<s.length):(s.flatMap cI)[j]?=some (.int .u8 (s[j].toNat:Int)):=by
 have:=B4x (c:=cI) (sz:=1) (fun _=>rfl) (xs:=s) (k:=j) (v:=s[j]) (by simp [a]) 0 _ rfl
 simpa using this
theorem C0o {o:Oper} {S T e:TypeId} {x:Operand} {q:Option Addr} {n' k:Nat} {s:List UInt8} (l:P.underlying T=some .string) (i:P.underlying S=some (.slice e)) (d:o.op=.convert S T x) (g:ev E x=some (.slice q n' k)) (n:V3 Φ (sl cI q s)) (m:n'=s.length) (f:(P.underlying e)=some (.int .u8)):J9 P X o E L Φ (.string (bs s)) :=
 .of_run fun t w h ⟨p,c⟩=>by
  subst m
  have b:=n p c.facts
  cases q with
  | none =>
   have b:s=[]:=b
   subst b
   simp [execOp,d,D0 h g,convert,run_underlying l,run_underlying i,run_underlying f,Conv.bytesToString]
   rfl
  | some a =>
   have b:A8y p a (s.flatMap cI):=b
   have:=run_convert_bytes_back (P:=P) w S T e a k s i f l fun j r=>b.cell c.sub (D6m s j r)
   simp [execOp,d,D0 h g,this]
theorem D7y {o:Oper} {S T e TT:Nat} {x:Operand} {r:VR} {s:List UInt8} (m:P.underlying T=some .string) (l:P.underlying S=some (.slice e)) (d:o.op=.convert S T x) (g:ev E x=some (vv r s.length)) {pre post:Own} (hL:L=pre++(vo cI TT r s++post)) (c:bT 1 s.length r) (f:(P.underlying e)=some (.int .u8)):J9 P X o E L Φ (.string (bs s)) :=
 .of_run fun u w h ⟨p,n⟩=>by
  obtain ⟨q,k,j⟩:=r
  cases q with
  | none =>
   have a:s.length=0:=c.1
   have a:s=[]:=List.eq_nil_of_length_eq_zero a
   subst a
   simp [execOp,d,D0 h g,convert,run_underlying m,run_underlying l,run_underlying f,Conv.bytesToString,va]
   rfl
  | some b =>
   have hb:=n.own.1 (bx b (s.flatMap cI++j) TT) (by rw [hL];exact List.mem_append_right _ (List.mem_append_left _ (by simp [vo])))
   have:=run_convert_bytes_back (P:=P) w S T e ⟨b,0,none⟩ k s l f m fun i t=>by
    rw [A1o]
    simp only [World.cell?,hb.1,Nat.zero_add]
    rw [List.getElem?_toArray,List.getElem?_append_left (by rw [G3 (sz:=1) (fun _=>rfl)];omega)]
    exact D6m s i t
   simp only [execOp,d,Sem.run_bind,D0 h g]
   rw [show vv ⟨some b,k,j⟩ s.length=.slice (some ⟨b,0,none⟩) s.length k from rfl,this]
   rfl
theorem E5z {o:Oper} {T U:TypeId} {x y:Operand} {k:IntKind} {a b:Int} (d:o.op=.binOp .quo T x y U) (f:ev E x=some (.int k a)) (e:ev E y=some (.int k b)) (hb:b≠0):J9 P X o E L Φ (.int k (k.wrap (a.tdiv b))):=.of_run fun g w c _=>by
 simp [execOp,d,D0 c f,D0 c e,eqGuard,binOp,Op.intDiv,hb]
theorem E6s {α:Type} {rs:List Slc} {xss:List (List α)} (a:B4 rs xss) (h:rs=[]):xss=[]:=by
 have:=a.1
 subst h
 exact List.eq_nil_of_length_eq_zero this.symm
theorem H9 {α:Type} {c:α→List Value}:V3 Φ (D5 c [] []):=fun p _ i r xs h=>by simp at h
theorem M3 {α:Type} {c:α→List Value} {r:Slc} {xs:List α} {rs:List Slc} {xss:List (List α)} (g:V3 Φ (sl c r.q xs)) (f:V3 Φ (D5 c rs xss)):V3 Φ (D5 c (r::rs) (xs::xss)):=fun p d i e b hr a=>by
 cases i with
 | zero=>simp only [List.getElem?_cons_zero,Option.some.injEq] at hr a;subst hr a;exact g p d
 | succ i=>simp only [List.getElem?_cons_succ] at hr a;exact f p d i e b hr a
theorem B4.none {α:Type}:B4 [] ([]:List (List α)):=⟨rfl,fun i r xs h=>by simp at h⟩
theorem B4.cons {α:Type} {r:Slc} {xs:List α} {rs:List Slc} {xss:List (List α)} (e:r.n=xs.length∧r.n≤r.k∧xs.length≤9223372036854775807) (c:B4 rs xss):B4 (r::rs) (xs::xss):=⟨by simp [c.1],fun i d b hr a=>by
 cases i with
 | zero=>simp only [List.getElem?_cons_zero,Option.some.injEq] at hr a;subst hr a;exact e
 | succ i=>simp only [List.getElem?_cons_succ] at hr a;exact c.2 i d b hr a⟩
end
section
variable {P:Program} {n:Nat} {X:Cx} {K:Act→World→Prop} {Q:Exit→Act→World→Prop} {E E':bY} {L L':Own} {Φ Φ':List Pers}
theorem B5f {o:Oper} {T:TypeId} (c:o.op=.makeMap T none):Tri P n X o E L Φ Nat (fun b=>.map (some b)) (fun b=>(b,.map #[] 0)::L) (fun _=>Φ):=by
 intro a w K Q e d
 refine A8v (by rw [c];rfl) ?_
 unfold Oper.wp
 rw [show (execOp a.eval o).run P w=.ok (.value (.map (some w.heap.size))) (w.alloc (.map #[] 0)) by
  simp only [execOp,c,Sem.run_bind,Option.map_none,run_makeMap];rfl]
 exact d _ _ (e.world.alloc _)
structure MapTy (P:Program) (T k e:Nat) (kd:TypeDesc):Prop where
 ty:P.underlying T=some (.map k e)
 key:P.underlying k=some kd
 plain:(match kd with | .int _ | .string | .bool=>true | _=>false)=true
theorem A7i {T k e:Nat} {a:TypeDesc} (b:MapTy P T k e a) (c:Bool) (v:Value) (w:World):(Instr.checkKey c 10000 k v).run P w=.ok () w:=by
 have d:=b.plain
 unfold Instr.checkKey
 rw [Sem.run_bind,run_underlying b.key]
 cases a<;>simp_all
theorem A9j {T k e:Nat} {a:TypeDesc} (b:MapTy P T k e a) {v:Value} {es:List MapEntry} {r:Option (Nat×Value)} (h:Instr.findNow a v es 0=some r) (w:World):(Instr.findKey k v es).run P w=.ok r w:=by
 unfold Instr.findKey
 rw [Sem.run_bind,run_underlying b.key]
 simp [h]
theorem E4h {w:World} {r:Nat} {es:Array MapEntry} {a:Nat} (h:w.heap[r]?=some (.map es a)):(getObj r).run P w=.ok (.map es a) w:=by simp [getObj,Sem.run,h]
theorem F6d {w:World} {r:Nat} {es:Array MapEntry} {a:Nat} (o:Obj) (h:w.heap[r]?=some (.map es a)):(setObj r o).run P w=.ok () {w with heap:=w.heap.setIfInBounds r o}:=by simp [setObj,Sem.run,h]
theorem C8n {w:World} (d:cE X L Φ w) {i b:Nat} {o:Obj} (c:L[i]?=some (b,o)):w.heap[b]?=some o:=by
 obtain ⟨p,a⟩:=d
 exact D0d a c
theorem F6 {o:Oper} {T k e:Nat} {s:TypeDesc} {m q f:Operand} {b:Nat} {h v:Value} {es es':Array MapEntry} {c:Nat} (r:MapTy P T k e s) (d:o.op=.insert T m q f∨o.op=.mapUpdate T m q f) (x:ev E m=some (.map (some b))) (y:ev E q=some h) (z:ev E f=some v)
  (i:Nat) (t:L[i]?=some (b,.map es c)) (u:Instr.findNow s h es.toList 0=some none) (he:es.push ⟨h,v,c⟩=es') :
  Tri P n X o E L Φ Unit (fun _=>undef) (fun _=>L.set i (b,.map es' (c+1))) (fun _=>Φ):=by
 intro a w K Q g p
 have hb:=C8n g.world t
 subst he
 have hr:(execOp a.eval o).run P w=.ok .skip {w with heap:=w.heap.setIfInBounds b (.map (es.push ⟨h,v,c⟩) (c+1))}:=by
  rcases d with d | d <;>
  simp [execOp,d,D0 g.has x,D0 g.has y,D0 g.has z,Instr.mapUpdate,run_underlying r.ty,E4h hb,F6d _ hb,A7i r,A9j r u]
 have l:b<w.heap.size:=(Array.getElem?_eq_some_iff.1 hb).1
 refine A8v (by rcases d with d | d<;>rw [d]<;>rfl) ?_
 unfold Oper.wp
 rw [hr]
 refine p () _ (g.world.set t ?_ (fun j hj=>?_) rfl rfl rfl oom)
 ·simp [l]
 ·simp [Array.getElem?_setIfInBounds,Ne.symm hj]
theorem E1l {o:Oper} {T k e:Nat} {f:TypeDesc} {m g:Operand} {b j:Nat} {d v:Value} {es:Array MapEntry} {a:Nat} (c:MapTy P T k e f) (p:o.op=.lookup T m g true) (r:ev E m=some (.map (some b))) (s:ev E g=some d)
  (i:Nat) (q:L[i]?=some (b,.map es a)) (n:Instr.findNow f d es.toList 0=some (some (j,v))):J9 P X o E L Φ (.tuple #[v,.bool true]):=.of_run fun t w h l=>by
 have hb:=C8n l q
 simp [execOp,p,D0 h r,D0 h s,Instr.lookup,run_underlying c.ty,E4h hb,A7i c,A9j c n]
theorem E4l {o:Oper} {T:TypeId} {d:TypeDesc} {x:Operand} {v:Value} (b:P.underlying T=some d) (e:(match d with | .interface _=>false | _=>true)=true) (f:o.op=.makeInterface T x) (c:ev E x=some v):J9 P X o E L Φ (.iface T v):=.of_run fun g w a _=>by
 cases d<;>simp_all [execOp,Instr.makeInterface,D0 a c,run_underlying b]
def F2t {ρ:Type} (pv:Value) (val:ρ→Value):Option ρ→Ending
 | some r=>.returned (val r)
 | none=>.panicked [{v:=pv,recovered:=false}]
def D2w (P:Program) (f:FuncId) (args:List Value) (L0:Own) (Φ0:List Pers) {ρ:Type} (pv:Value) (R:Option ρ) (val:ρ→Value):Prop :=
 HasBody P f∧∀ (w:World) (h:Hp),(∀ q ∈ Φ0,q.p h)→h.sub w→A3j L0 h w →
  Calls P f args.toArray w fun e w'=>cE (cx w h (L0.map Prod.fst)) [] [] w'∧e=F2t pv val R
def E3x (P:Program) (X:Cx) (a:Func) {ρ:Type} (pv:Value) (R:Option ρ) (val:ρ→Value):Exit→Act→World→Prop :=
 bodyPostM (FW none) 0 P a fun e w'=>cE X [] [] w'∧e=F2t pv val R
theorem B6y {f:FuncId} {a:Func} {c:Code} {args:List Value} {L0:Own} {Φ0:List Pers} {ρ:Type} {pv:Value} {R:Option ρ} {val:ρ→Value}
  (j : P.funcs[f]? = some a) (hb : a.body = some c) (i : (a.name == "runtime.NumGoroutine") = false) (l : a.ntmps = n) (g : Nat.ble args.length n = true) (E0 : bY) (hE : O1 ((List.range args.length).zip args) E0)
  (h:∀ X:Cx,X.M=L0.map Prod.fst→X.rho=none→X.D=[]→J P n X c (E3x P X a pv R val) E0 L0 Φ0):D2w P f args L0 Φ0 pv R val:=by
 refine ⟨⟨by simp [j,hb,i]⟩,fun w p m r q=>?_⟩
 have k:args.length≤n:=Nat.le_of_ble_eq_true g
 refine (callsIn_wide).1 (callsIn_of_wp_marks j hb trivial (h (cx w p _) rfl rfl rfl _ w ⟨?_,rfl,?_,p,⟨m,r,Hp.le_refl p,fun b hb=>.inl hb,q,fun e s=>.inl (List.mem_map_of_mem s),KeptBut.refl _ w,fun d o=>by cases o⟩⟩))
 ·simp [l];omega
 ·rw [l];exact B6w g hE
theorem D4o {X':Cx} {a:Act} {w:World} {i:Func} {ρ:Type} {pv:Value} {R:Option ρ} {val:ρ→Value} {v:Value} {r:ρ} (hX:X'=X.wd X'.D) (c:X=X.wd []) (b:X.rho=none) (g:(X'.D.map Prod.fst).Nodup∧∀ d ∈ X'.D,d.2=.deferred (some [])) (hr:Res P n X i E L Φ v) (hR:R=some r) (k:val r=v)
  (h:St n X' E L Φ a w):LeavesInM (FW none) 0 P i a.tmps (fun e w'=>cE X [] [] w'∧e=F2t pv val R) a.defers .returning w:=by
 have j:X'.marks=X'.D.map (B8t ·.1):=by rw [hX];unfold Cx.marks Cx.wd;simp only [b]
 rw [h.defers,j]
 refine B2y _ g.1 g.2 w (hX▸h.world) fun w' f=>⟨v,?_,?_,by rw [hR,← k];rfl⟩
 ·rw [c] at hr
  exact hr {a with defers:=[]} _ ⟨h.size,by unfold Cx.marks Cx.wd;simp only [b];rfl,h.has,f⟩
 ·rw [c];exact (f.sub (List.nil_sublist _)).foll A7.nil
theorem D4i {X':Cx} {f:Func} {ρ:Type} {pv:Value} {R:Option ρ} {val:ρ→Value} {v:Value} {r:ρ} (hX:X'=X.wd X'.D) (b:X.rho=none∧X.D=[]) (c:(X'.D.map Prod.fst).Nodup∧∀ d ∈ X'.D,d.2=.deferred (some [])) (hr:Res P n X f E L Φ v) (hR:R=some r) (i:val r=v) :
  JQ n X' (E3x P X f pv R val .ret) E L Φ:=fun a w h=>D4o hX (by obtain ⟨j,k,M,r,D⟩:=X;obtain ⟨g,e⟩:=b;simp only at g e;subst g e;rfl) b.1 c hr hR i h
theorem B8c {X':Cx} {f:Func} {ρ:Type} {pv:Value} {R:Option ρ} {val:ρ→Value} {v:Value} {r:ρ} (hX:X'=X.wd X'.D) (b:X.rho=none∧X.D=[]) (c:(X'.D.map Prod.fst).Nodup∧∀ d ∈ X'.D,d.2=.deferred (some [])) (hr:Res P n X f E L Φ v) (hR:R=some r) (i:val r=v) :
  JQ n X' (E3x P X f pv R val .normal) E L Φ:=fun a w h=>D4o hX (by obtain ⟨j,k,M,r,D⟩:=X;obtain ⟨g,e⟩:=b;simp only at g e;subst g e;rfl) b.1 c hr hR i h
theorem A5a {c:Func} {ρ:Type} {pv:Value} {R:Option ρ} {val:ρ→Value} (b:X.rho=none∧X.D=[]) (hR:R=none) :
  JQ n X (E3x P X c pv R val (.panic [{v:=pv,recovered:=false}])) E L Φ:=fun a w d=>by
 have e:a.defers=[]:=by rw [d.defers];unfold Cx.marks;rw [b.1,b.2];rfl
 show LeavesInM (FW none) 0 P c a.tmps _ a.defers _ w
 rw [e,hR]
 exact ⟨(d.world.sub (List.nil_sublist _)).foll A7.nil,rfl⟩
theorem E6p {ops:Array Oper} {i m:Nat} {o:Oper} {x:Operand} {T:TypeId} {v:Value} (f:C4j n ops i E=some o) (d:o.op=.panic x) (j:ev E x=some (.iface T v)) (h:JQ n X (Q (.panic [{v:=.iface T v,recovered:=false}])) E L Φ) :
  JI P n X ops i (m+1) K Q E L Φ:=by
 intro a w b
 obtain ⟨k,g,_⟩:=N9 f
 rw [B3j k,List.take_succ_cons]
 refine wpListIn_step fun K' l=>?_
 rw [if_pos (A3o b.has g)]
 refine ⟨fun _ _=>trivial,?_⟩
 rw [Oper.semAt_eq _ _ _ (fun c e=>by rw [d] at e;cases e)]
 rw [show (execOp a.eval o).run P w=.halt (.panic (.iface T v)) w by simp [execOp,d,D0 b.has j,Instr.panic,goPanic]]
 exact h a w b
theorem B3t {ops:Array Oper} {i m:Nat} {o:Oper} {c:Call} {y:Operand} {k:FuncId} {first cap:Array Value} {u args:List Value} {L0 L2:Own} {Φ0:List Pers} {ρ:Type} {pv:Value} {R:Option ρ} {val:ρ→Value}
  (b:D2w P k args L0 Φ0 pv R val) (t:C4j n ops i E=some o) (x:o.op=.call c) (hc:c.callee=.value y) (hf:ev E y=some (.func (.func k) first cap)) (d:c.args.toList.mapM (ev E)=some u) (ha:(first++u.toArray++cap).toList=args)
  (hΦ:A7 Φ Φ0) (hL:L.Perm (L0++L2)) (h1:∀ r,R=some r→JI P n X ops (i+1) m K Q (bY.put E o.dst (val r)) L2 Φ) (z:R=none→JQ n X (Q (.panic [{v:=pv,recovered:=false}])) E L2 Φ):JI P n X ops i (m+1) K Q E L Φ:=by
 intro a w f
 obtain ⟨e1,e2,e3⟩:=N9 t
 rw [B3j e1,List.take_succ_cons]
 refine wpListIn_step fun K' hK=>?_
 rw [if_pos (A3o f.has e2)]
 obtain ⟨p,s⟩:=f.world
 have hr:=D0r f.has x hc hf d b.1 w
 have j:A3j (L0++L2) p w:=⟨fun e g=>s.own.1 e (hL.symm.subset g),(hL.map Prod.fst).nodup_iff.1 s.own.2⟩
 have:=b.2 w p (hΦ p s.facts) s.sub (j.sub (List.sublist_append_left _ _))
 rw [← ha,Array.toArray_toList] at this
 refine ⟨fun _ _=>trivial,?_⟩
 rw [Oper.semAt_eq _ _ _ (fun c q=>by rw [x] at q;cases q),hr]
 refine ⟨A7w,(B4n this).mono fun e w' ⟨hw,g⟩=>?_⟩
 have l:cE X L2 Φ w':=by
  have:=cE.call s hL hw
  simpa using this
 cases hR:R with
 | some r =>
  rw [hR] at g
  subst g
  exact hK _ _ (h1 r hR _ _ (f.put e3 (val r) l))
 | none =>
  rw [hR] at g
  subst g
  exact z hR a w' ⟨f.size,f.defers,f.has,l⟩
theorem D1w {ρ σ:Type} {o:Option ρ} {k:ρ→Option σ} {R:Option σ} {r:ρ} (h:Option.bind o k=R) (hr:o=some r):k r=R:=by subst hr;exact h
theorem C9l {ρ σ:Type} {o:Option ρ} {k:ρ→Option σ} {R:Option σ} (h:Option.bind o k=R) (hr:o=none):none=R:=by subst hr;exact h
theorem A6i {o:Oper} {T e sz a b:Nat} {agg:Bool} {x y:Operand} {m:Int} (i:P.underlying T=some (.array a e)) (f:Ty P e sz agg) (d:o.op=.indexAddr T x y)
  (j:ev E x=some (.pointer (some ⟨b,0,none⟩))) (h:ev E y=some (.int .i64 m)) (k:Nat) (c:m=k) (g:k<a):J9 P X o E L Φ (.pointer (some ⟨b,k * sz,none⟩)):=by
 have:=B8f (L:=L) (Φ:=Φ) (X:=X) i f d j h k c g
 rwa [A1o,Nat.zero_add] at this
abbrev A7n:Value:=.iface 281 (.agg #[])
theorem C8m {α:Type} {c:α→List Value} {sz:Nat} {q:Option Addr} {xs:List α} (h:V3 Φ (sl c q xs)) (l m:Nat) (d:∀ x,(c x).length=sz) (b:l≤xs.length) (a:xs.length≤m):V3 Φ (sl c (B2x q l sz m) (xs.drop l)) :=
 E0q h l xs.length m d (by rw [List.take_of_length_le oom]) b a
theorem D7q {o:Oper} {c:Call} {T e sz q:Nat} {x y:Operand} {α:Type} {f:α→List Value} {xs ys:List α} {qx qy:Option Addr} {n1 k1 m cc:Nat} (hT:ApTy P T e sz q) (hf:∀ x,(f x).length=sz) (av:∀ x,(f x).all (·.oneCell')=true)
  (ho:o.op=.call c) (hc:c.callee=.builtin .append) (v:c.args=#[x,y]) (a6:c.argTypes=#[T,T]) (hx:ev E x=some (.slice qx n1 k1)) (hy:ev E y=some (.slice qy m cc)) (ab:n1=xs.length) (al:k1=xs.length) (hm:m=ys.length)
  (a5:V3 Φ (sl f qx xs)) (h:V3 Φ (sl f qy ys)) (ae:0<ys.length) (hb:(xs.length+ys.length) * q≤140737488355328) (a0:xs.length+ys.length≤9223372036854775807) :
  Tri P n X o E L Φ {r':VR // bT sz (xs++ys).length r'} (fun r'=>vv r'.1 (xs++ys).length) (fun r'=>L++(vo f e r'.1 (xs++ys)++[])) (fun _=>Φ):=by
 subst ab al hm
 cases qx with
 | none =>
  intro ac w K Q t hk
  obtain ⟨p,s⟩:=t.world
  have h0:xs=[]:=a5 p s.facts
  subst h0
  exact A4i (r:=VR.nil) (xs:=[]) (pre:=L) (post:=[]) hT hf av ho hc v a6 hx hy rfl (by simp [vo,VR.nil]) h bT.nil hb a0 ac w K Q t hk
 | some a =>
  intro ac w K Q t hk
  obtain ⟨p,s⟩:=t.world
  cases qy with
  | none=>have h0:ys=[]:=h p s.facts;subst h0;simp at ae
  | some a' =>
   have c1:A8y p a (xs.flatMap f):=a5 p s.facts
   have c2:A8y p a' (ys.flatMap f):=h p s.facts
   obtain ⟨i,hi,b⟩:=Option.map_eq_some_iff.1 hT.info
   simp only [Prod.mk.injEq] at b
   obtain ⟨h4,h5,h6⟩:=b
   obtain ⟨z,hz,h6⟩:=Option.map_eq_some_iff.1 h6
   have a7:0<sz:=by simpa [Nat.blt_eq] using hT.pos
   obtain ⟨v',w',a1,⟨aw,aq⟩,hg⟩:=run_append_arg_grows (P:=P) w T o.type e i z sz q hT.ty hi hz h4 h5 h6 a7 a xs.length xs.length (xs.flatMap f) (G3 hf xs) (fun j u hj=>c1.cell s.sub hj)
    a' ys.length cc (ys.flatMap f) (G3 hf ys) (fun j u hj=>c2.cell s.sub hj) opx a0 hb
   have aj:KeptBut (([]:Own).map Prod.fst) w w':=⟨hg.os,hg.tape,hg.output,hg.size,fun k hk _=>hg.block k hk oom⟩
   refine A8v (by rw [ho];rfl) ?_
   unfold Oper.wp
   rw [show (execOp ac.eval o).run P w=.ok (.value v') w' by
    simp [execOp,ho,resolve,hc,v,a6,D0 t.has hx,D0 t.has hy,invoke,builtin,a1]]
   rcases aq with ⟨rfl,ba⟩ | ⟨g,cap,cur,rfl,ak,l,a9,a8,af,d⟩
   ·omega
   ·have ad:cE X (L++([bx g ((xs++ys).flatMap f++cur.toList.drop ((xs.length+ys.length) * sz)) e]++[])) Φ w':=by
     refine cE.turn (L0:=[]) (show cE X (L++([]++[])) Φ w by simpa using t.world) aj ?_ oom
     intro e' he
     obtain rfl:e'=_:=by simpa using he
     refine ⟨?_,.inr ak⟩
     simp only
     rw [l,← List.append_assoc,← d,List.take_append_drop]
    have:=hk ⟨⟨some g,cap,cur.toList.drop ((xs.length+ys.length) * sz)⟩,?_⟩ w' (by simpa [vo] using ad)
    ·simp only [vv,va,List.length_append] at this
     exact this
    ·have h9:(xs.length+ys.length) * sz≤cap * sz:=Nat.mul_le_mul_right _ a9
     refine ⟨?_,by simpa using a9,a8⟩
     simp only [List.length_drop,Array.length_toList,af,List.length_append]
     omega
theorem D6k (s:List UInt8):byteCells (bs s)=s.flatMap cI:=by
 simp only [byteCells,bs,cI]
 induction s with
 | nil=>rfl
 | cons x s ih =>
  simp only [List.flatMap_cons]
  rw [← ih]
  rfl
theorem D0w {w:World} {T ty e:TypeId} {i:TypeInfo} (d:P.underlying T=some (.slice e)) (f:P.info? e=some i) (q a:Option Addr) (m k:Nat) (b:m≤k) (c:Nat):(Builtin.append_ #[T,T] ty #[.slice q m k,.slice a 0 c]).run P w=.ok (.slice q m k) w:=by
 cases q<;>cases a<;>simp [Builtin.append_,run_underlying d,sizeOf,typeInfo,f,Builtin.lenOf,Builtin.firstCells,b,storeCells,loadCells,loadCellsFrom]
theorem C3c {o:Oper} {c:Call} {T e sz u:Nat} {x y:Operand} {α:Type} {f:α→List Value} {xs ys:List α} {b qy:Option Addr} {n1 k1 m cc:Nat} (hT:ApTy P T e sz u) (hf:∀ x,(f x).length=sz) (a8:∀ x,(f x).all (·.oneCell')=true)
  (ho:o.op=.call c) (hc:c.callee=.builtin .append) (g:c.args=#[x,y]) (s:c.argTypes=#[T,T]) (hx:ev E x=some (.slice b n1 k1)) (hy:ev E y=some (.slice qy m cc)) (h:n1=xs.length) (d:k1=xs.length) (hm:m=ys.length)
  (j:V3 Φ (sl f b xs)) (a6:V3 Φ (sl f qy ys)) (hb:(xs.length+ys.length) * u≤140737488355328) (a3:xs.length+ys.length≤9223372036854775807) :
  Tri P n X o E L Φ {t:Option Addr×Nat // (xs++ys).length≤t.2} (fun t=>.slice t.1.1 (xs++ys).length t.1.2) (fun _=>L) (fun t=>sl f t.1.1 (xs++ys)::Φ):=by
 by_cases hys:0<ys.length
 ·intro z w K Q v hk
  refine D7q hT hf a8 ho hc g s hx hy h d hm j a6 hys hb a3 z w K Q v fun r w' hw=>?_
  have:=hk ⟨(va r.1.q,r.1.k),r.2.cap⟩ w' (by have:=hw.sealed (pre:=L) (post:=[]) r.2;simpa using this)
  exact this
 ·have h0:ys=[]:=by cases ys with | nil=>rfl | cons a l=>simp at hys
  subst h0
  subst h d hm
  intro z w K Q v hk
  obtain ⟨i,hi,_⟩:=Option.map_eq_some_iff.1 hT.info
  refine A8v (by rw [ho];rfl) ?_
  unfold Oper.wp
  rw [show (execOp z.eval o).run P w=.ok (.value (.slice b xs.length xs.length)) w by
   simp [execOp,ho,resolve,hc,g,s,D0 v.has hx,D0 v.has hy,invoke,builtin,D0w (P:=P) (ty:=o.type) hT.ty hi b qy xs.length xs.length (Nat.le_refl _) cc]]
  have:=hk ⟨(b,xs.length),by simp⟩ w (by
   obtain ⟨p,hp⟩:=v.world
   simp only [List.append_nil]
   exact ⟨p,{hp with facts:=fun q hq=>by rcases List.mem_cons.1 hq with rfl | hq;exact j p hp.facts;exact hp.facts q hq}⟩)
  exact (by simpa using this:K _ w)
theorem D6z {w:World} {T tx ty e:TypeId} {i:TypeInfo} (g:P.underlying T=some (.slice e)) (h:P.info? e=some i) {b sLen sCap m TT:Nat} {x:Value} {news:List Value} {cur:Array Value} (d:Src P i.size tx x m news w)
  (hb:w.heap[b]?=some (.cells cur TT (0,0))) (a:sLen+m≤sCap) (f:sLen * i.size+news.length≤cur.size) :
  (Builtin.append_ #[T,tx] ty #[.slice (some ⟨b,0,none⟩) sLen sCap,x]).run P w=.ok (.slice (some ⟨b,0,none⟩) (sLen+m) sCap) (w.setRow b (cur.toList.take (sLen * i.size)++news++cur.toList.drop (sLen * i.size+news.length)).toArray):=by
 have c:=run_storeCells_at P b (sLen * i.size) TT news 0 cur w hb (by simpa using f) d.one
 simp only [Nat.add_zero] at c
 rcases d.kind with ⟨e',hk⟩ | hk<;>simp [Builtin.append_,run_underlying g,run_underlying hk,sizeOf,typeInfo,h,d.len,a,d.cells,A1o,c]
theorem B5b {o:Oper} {c:Call} {T U e:Nat} {x y:Operand} {r:VR} {xs s:List UInt8} {pre post:Own} (hT:ApTy P T e 1 1) (hz:(P.info? e).bind (·.zero)=some (.int .u8 0)) (hU:P.underlying U=some .string)
  (ho:o.op=.call c) (hc:c.callee=.builtin .append) (ah:c.args=#[x,y]) (ar:c.argTypes=#[T,U]) (hx:ev E x=some (vv r xs.length)) (hy:ev E y=some (.string (bs s))) (hL:L=pre++(vo cI e r xs++post))
  (g:bT 1 xs.length r) (hb:xs.length+s.length≤140737488355328) :
  Tri P n X o E L Φ {r':VR // bT 1 (xs++s).length r'} (fun r'=>vv r'.1 (xs++s).length) (fun r'=>pre++(vo cI e r'.1 (xs++s)++post)) (fun _=>Φ):=by
 intro ac w K Q hs hk
 obtain ⟨i,hi,a0⟩:=Option.map_eq_some_iff.1 hT.info
 simp only [Prod.mk.injEq] at a0
 obtain ⟨h4,h5,h6⟩:=a0
 obtain ⟨i2,a5,ak⟩:=Option.bind_eq_some_iff.1 hz
 obtain rfl:i=i2:=by rw [hi] at a5;exact Option.some.inj a5
 have f:=fun w'=>Src.ofString (P:=P) w' hU (bs s)
 rw [D6k] at f
 have hw:=hs.world
 rw [hL] at hw
 have b5:(bs s).size=s.length:=rfl
 refine A8v (by rw [ho];rfl) ?_
 unfold Oper.wp
 have d:∀ v w',(Builtin.append_ #[T,U] o.type #[vv r xs.length,.string (bs s)]).run P w=.ok v w'→(execOp ac.eval o).run P w=.ok (.value v) w':=fun v w' h=>by
  simp [execOp,ho,resolve,hc,ah,ar,D0 hs.has hx,D0 hs.has hy,invoke,builtin,h]
 obtain ⟨q,k,j⟩:=r
 by_cases hroom:xs.length+s.length≤k
 ·cases q with
  | none =>
   have h0:xs.length=0∧k=0:=g
   have ap:s=[]:=List.eq_nil_of_length_eq_zero opx
   have a3:xs=[]:=List.eq_nil_of_length_eq_zero h0.1
   obtain ⟨_,aq⟩:=h0
   subst ap a3 aq
   have:=run_append_nothing (P:=P) w T U o.type e i hT.ty hi none 0 0 (Nat.le_refl _) (.string (bs [])) (by have:=f w;rw [h4];exact this)
   rw [d _ _ this]
   exact hk ⟨⟨none,0,j⟩,g⟩ w (by simpa using hw)
  | some b =>
   have a7:xs.length * 1+j.length=k * 1∧xs.length≤k∧k≤maxLen:=g
   obtain ⟨p,hp⟩:=hw
   have z:=(hp.own.1 (bx b (xs.flatMap cI++j) e) (List.mem_append_right _ (List.mem_append_left _ (by simp [vo])))).1
   have a:∀ l:List UInt8,(l.flatMap cI).length=l.length:=fun l=>by rw [G3 (sz:=1) (fun _=>rfl)];omega
   have:=D6z (P:=P) (w:=w) (T:=T) (tx:=U) (ty:=o.type) hT.ty hi (b:=b) (sLen:=xs.length) (sCap:=k) (m:=s.length) (TT:=e) (x:=.string (bs s)) (news:=s.flatMap cI) (cur:=(xs.flatMap cI++j).toArray) (by rw [h4];exact f w) z hroom (by rw [h4];simp [a];omega)
   rw [d _ _ this]
   have e1:(((xs.flatMap cI++j).toArray.toList.take (xs.length * i.size)++s.flatMap cI++(xs.flatMap cI++j).toArray.toList.drop (xs.length * i.size+(s.flatMap cI).length)).toArray)=(((xs++s).flatMap cI)++j.drop s.length).toArray:=by
    rw [h4,Nat.mul_one,a]
    simp only [List.flatMap_append]
    rw [List.take_append_of_le_length (by rw [a];omega),List.take_of_length_le (by rw [a];omega),List.drop_append,a,List.drop_of_length_le (by rw [a];omega),List.nil_append,show xs.length+s.length - xs.length=s.length by omega]
   rw [e1]
   have a4:KeptBut (([bx b (xs.flatMap cI++j) e]:Own).map Prod.fst) w (w.setRow b (((xs++s).flatMap cI)++j.drop s.length).toArray):=⟨rfl,rfl,rfl,by simp,fun k' ai hm=>setRow_other w b k' _ (by rintro rfl;exact hm oom)⟩
   have a1:cE X (pre++([bx b ((xs++s).flatMap cI++j.drop s.length) e]++post)) Φ (w.setRow b (((xs++s).flatMap cI)++j.drop s.length).toArray):=by
    refine cE.turn (L0:=[bx b (xs.flatMap cI++j) e]) ⟨p,hp⟩ a4 ?_ oom
    intro e' he
    obtain rfl:e'=_:=by simpa using he
    refine ⟨?_,.inl oom⟩
    have:=setRow_heap w b _ (((xs++s).flatMap cI)++j.drop s.length).toArray e (0,0) z
    simpa using this
   have:=hk ⟨⟨some b,k,j.drop s.length⟩,?_⟩ _ a1
   ·simp only [vv,va,List.length_append] at this
    exact this
   ·refine ⟨?_,by simpa using hroom,a7.2.2⟩
    simp only [List.length_drop,List.length_append];omega
 ·have hg:k<xs.length+s.length:=by omega
  obtain ⟨p,hp⟩:=hw
  have a:∀ l:List UInt8,(l.flatMap cI).length=l.length:=fun l=>by rw [G3 (sz:=1) (fun _=>rfl)];omega
  have a8:∀ w':World,(w'.heap=w.heap)→(Builtin.firstCells i.size xs.length (.slice (va q) xs.length k)).run P w'=.ok (xs.flatMap cI).toArray w':=by
   intro w' an
   cases q with
   | none =>
    have h0:xs.length=0∧k=0:=g
    have a3:xs=[]:=List.eq_nil_of_length_eq_zero h0.1
    subst a3
    simp [va,Builtin.firstCells]
   | some b =>
    have z:=(hp.own.1 (bx b (xs.flatMap cI++j) e) (List.mem_append_right _ (List.mem_append_left _ (by simp [vo])))).1
    exact run_firstCells_some w' i.size xs.length ⟨b,0,none⟩ xs.length k (xs.flatMap cI) (by rw [a,h4];omega) fun t u ht=>by
     rw [A1o]
     simp only [World.cell?,an,z,Nat.zero_add]
     rw [List.getElem?_toArray,List.getElem?_append_left (List.getElem?_eq_some_iff.1 ht).1]
     exact ht
  have hr:=run_append_grow_src (P:=P) w T U o.type e i (.int .u8 0) hT.ty hi ak (va q) xs.length k (xs.flatMap cI) (a8 w.drew rfl) (.string (bs s)) s.length (s.flatMap cI) (by rw [h4];exact f w) hg opx (growslice_fits hg (by rw [h5];omega))
  rw [d _ _ hr]
  have am:=grownCap_ge w (xs.length+s.length) k e
  have af:grownCap w (xs.length+s.length) k e≤maxLen:=grownCap_le_maxLen w (xs.length+s.length) k e (by unfold maxLen;omega)
  have a4:KeptBut ((vo cI e ⟨q,k,j⟩ xs).map Prod.fst) w (w.drew.alloc (.cells ((xs.flatMap cI++s.flatMap cI).toArray++Builtin.zeroCells (Value.int .u8 0).cells (grownCap w (xs.length+s.length) k e - (xs.length+s.length))) e)) :=
   ⟨rfl,rfl,rfl,by simp,fun k' ai _=>(by show (w.heap.push _)[k']?=_;rw [Array.getElem?_push,if_neg opx])⟩
  have a1:cE X (pre++([bx w.heap.size ((xs++s).flatMap cI++(Builtin.zeroCells (Value.int .u8 0).cells (grownCap w (xs.length+s.length) k e - (xs.length+s.length))).toList) e]++post)) Φ (w.drew.alloc (.cells ((xs.flatMap cI++s.flatMap cI).toArray++Builtin.zeroCells (Value.int .u8 0).cells (grownCap w (xs.length+s.length) k e - (xs.length+s.length))) e)):=by
   refine cE.turn (L0:=vo cI e ⟨q,k,j⟩ xs) ⟨p,hp⟩ a4 ?_ oom
   intro e' he
   obtain rfl:e'=_:=by simpa using he
   refine ⟨?_,.inr (Nat.le_refl _)⟩
   simp only
   rw [show (w.drew.alloc (Obj.cells ((xs.flatMap cI++s.flatMap cI).toArray++Builtin.zeroCells (Value.int .u8 0).cells (grownCap w (xs.length+s.length) k e - (xs.length+s.length))) e)).heap[w.heap.size]?=_ from heap_alloc_new w.drew _]
   simp [List.flatMap_append]
  have:=hk ⟨⟨some w.heap.size,grownCap w (xs.length+s.length) k e,(Builtin.zeroCells (Value.int .u8 0).cells (grownCap w (xs.length+s.length) k e - (xs.length+s.length))).toList⟩,?_⟩ _ a1
  ·simp only [vv,va,List.length_append] at this
   exact this
  ·refine ⟨?_,by simpa using am,af⟩
   have au:(Value.int IntKind.u8 0).cells.size=1:=rfl
   simp only [Array.length_toList,size_zeroCells,au,List.length_append];omega
theorem B1l {n:Int}:Value.int .u8 (IntKind.u8.wrap n)=.int .u8 ((by8 (IntKind.u8.wrap n)).toNat:Int):=by
 rw [D3v]
 unfold IntKind.wrap
 simp [IntKind.bits,IntKind.signed]
 omega
theorem C5e {c:BinOp} {a b:Int}:Value.int .u8 (bOp c .u8 a b)=.int .u8 ((by8 (bOp c .u8 a b)).toNat:Int):=by
 unfold bOp;exact B1l
end
end Go.Fen
namespace Go.Fen
open Go
theorem B4.append {α:Type} {rs rs':List Slc} {xss xss':List (List α)} (a:B4 rs xss) (c:B4 rs' xss'):B4 (rs++rs') (xss++xss'):=by
 refine ⟨by simp [a.1,c.1],fun i r xs hr b=>?_⟩
 by_cases hi:i<rs.length
 ·rw [List.getElem?_append_left hi] at hr
  rw [List.getElem?_append_left (by have:=a.1;omega)] at b
  exact a.2 i r _ hr b
 ·have:=a.1
  rw [List.getElem?_append_right opx] at hr
  rw [List.getElem?_append_right opx] at b
  exact c.2 _ r _ hr (by rw [this];exact b)
theorem B4.set {α:Type} {rs:List Slc} {xss:List (List α)} (h:B4 rs xss) (k:Nat) {r:Slc} {xs:List α} (hr:r.n=xs.length∧r.n≤r.k∧xs.length≤9223372036854775807):B4 (rs.set k r) (xss.set k xs):=by
 refine ⟨by simp [h.1],fun i d c b a=>?_⟩
 rw [List.getElem?_set] at b a
 by_cases hk:k=i
 ·subst hk
  simp only [if_true] at b a
  split at b
  ·split at a
   ·obtain rfl:=Option.some.inj b
    obtain rfl:=Option.some.inj a
    exact hr
   ·cases a
  ·cases b
 ·simp only [hk,if_false] at b a
  exact h.2 i d c b a
section
variable {P:Program} {n:Nat} {X:Cx} {K:Act→World→Prop} {Q:Exit→Act→World→Prop} {E E':bY} {L L':Own} {Φ Φ':List Pers}
theorem D7t {α:Type} {c:α→List Value} {rs rs':List Slc} {xss xss':List (List α)} (d:rs.length=xss.length) (f:V3 Φ (D5 c rs xss)) (e:V3 Φ (D5 c rs' xss')):V3 Φ (D5 c (rs++rs') (xss++xss')):=fun p b i r xs hr a=>by
 by_cases hi:i<rs.length
 ·rw [List.getElem?_append_left hi] at hr
  rw [List.getElem?_append_left opx] at a
  exact f p b i r xs hr a
 ·rw [List.getElem?_append_right opx] at hr
  rw [List.getElem?_append_right opx] at a
  exact e p b (i - rs.length) r xs hr (by rw [d];exact a)
theorem D8m {α:Type} {c:α→List Value} {rs:List Slc} {xss:List (List α)} (k:Nat) {r:Slc} {xs:List α} (g:V3 Φ (D5 c rs xss)) (f:V3 Φ (sl c r.q xs)):V3 Φ (D5 c (rs.set k r) (xss.set k xs)):=fun p d i e b hr a=>by
 rw [List.getElem?_set] at hr a
 by_cases hk:k=i
 ·subst hk
  simp only [if_true] at hr a
  split at hr
  ·split at a
   ·obtain rfl:=Option.some.inj hr
    obtain rfl:=Option.some.inj a
    exact f p d
   ·cases a
  ·cases hr
 ·simp only [hk,if_false] at hr a
  exact g p d i e b hr a
theorem J8 {o:Oper} {c:Call} {T e b:Nat} {x y:Operand} {α:Type} {cc:α→List Value} {r:VR} {rs ys:List Slc} {xss yss:List (List α)} {q:Option Addr} {k m kk:Nat} {pre post:Own} (hT:ApTy P T e 1 b)
  (ho:o.op=.call c) (hc:c.callee=.builtin .append) (g:c.args=#[x,y]) (i:c.argTypes=#[T,T]) (hx:ev E x=some (vv r k)) (hk:k=xss.length) (hy:ev E y=some (.slice q m kk)) (hm:m=yss.length) (hL:L=pre++(vo D9 e r rs++post))
  (hq:V3 Φ (sl D9 q ys)) (h1:V3 Φ (D5 cc rs xss)) (h2:V3 Φ (D5 cc ys yss)) (s:B4 rs xss) (h:B4 ys yss) (t:bT 1 xss.length r) (hb:(xss.length+yss.length) * b≤140737488355328) (a8:xss.length+yss.length≤9223372036854775807) :
  Tri P n X o E L Φ {a:VR // bT 1 (xss++yss).length a} (fun a=>vv a.1 (xss++yss).length) (fun a=>pre++(vo D9 e a.1 (rs++ys)++post)) (fun _=>D5 cc (rs++ys) (xss++yss)::Φ):=by
 have d:=s.1
 have u:=h.1
 have v:(rs++ys).length=(xss++yss).length:=by simp [d,u]
 intro ac w K Q hs hK
 refine A4i hT (fun _=>rfl) (fun _=>rfl) ho hc g i (by rw [d,← hk];exact hx) hy opx hL hq (by rw [d];exact t) (by rw [d,u];exact hb) opx _ w K Q hs fun a w' hw=>?_
 have:=hK ⟨a.1,v▸a.2⟩ w' (by
  obtain ⟨p,l⟩:=hw
  exact ⟨p,{l with facts:=fun z j=>by rcases List.mem_cons.1 j with rfl | j;exact D7t d h1 h2 p l.facts;exact l.facts z j}⟩)
 simp only [v]
 exact this
theorem D6e {w:World} {T tx ty e:TypeId} {i:TypeInfo} {z:Value} (k:P.underlying T=some (.slice e)) (o:P.underlying tx=some (.int .i64)) (n:P.info? e=some i) (q:i.zero=some z) (m:Nat) (l:0<m)
  (p:m≤9223372036854775807) (j:m * i.bytes≤281474976710656) (r:0<i.size) :
  (Builtin.append_ #[T,tx] ty #[.slice none 0 0,.int .i64 m]).run P w =
   .ok (.slice (some ⟨w.heap.size,0,none⟩) m (grownCap w m 0 e)) (w.drew.alloc (.cells (Builtin.zeroCells z.cells m++Builtin.zeroCells z.cells (grownCap w m 0 e - m)) e)):=by
 have f:m≠0:=by omega
 have a:¬ (9223372036854775807<(m:Int)):=by omega
 have c:¬ (281474976710656<Builtin.nextslicecap m 0 * i.bytes):=by rw [nextslicecap_zero l];omega
 have g:IntKind.i64.wrap (m:Int)=m:=A3i (by show (-9223372036854775808:Int)≤_;omega) (by show _≤(9223372036854775807:Int);omega)
 have b:¬ ((m:Int)<0):=by omega
 have hb:¬ (281474976710656<(m:Int) * (i.bytes:Int)):=by omega
 have d:i.size≠0:=by omega
 simp [Builtin.append_,run_underlying k,run_underlying o,sizeOf,typeInfo,zeroValue,n,q,Builtin.lenOf,f,a,c,g,b,hb,d,Question.forced,run_firstCells_none,newRow,grownCap,asInt,asIntOf]
 intro h;exact absurd h (Nat.mul_ne_zero f d)
theorem D6j {o:Oper} {c:Call} {T tx e sz g m:Nat} {x y:Operand} {α:Type} {f:α→List Value} (r:ApTy P T e sz g) (l:P.underlying tx=some (.int .i64))
  (ho:o.op=.call c) (hc:c.callee=.builtin .append) (j:c.args=#[x,y]) (s:c.argTypes=#[T,tx]) (hx:ev E x=some (.slice none 0 0)) (hy:ev E y=some (.int .i64 (m:Int))) (h0:0<m) (hb:m * g≤140737488355328) (t:m≤9223372036854775807) :
  Tri P n X o E L Φ {b:VR // bT sz 0 b∧m≤b.k} (fun b=>.slice (va b.1.q) m b.1.k) (fun b=>L++(vo f e b.1 []++[])) (fun _=>Φ):=by
 intro ac w K Q u hk
 obtain ⟨i,hi,a⟩:=Option.map_eq_some_iff.1 r.info
 simp only [Prod.mk.injEq] at a
 obtain ⟨h4,h5,v⟩:=a
 obtain ⟨z,hz,v⟩:=Option.map_eq_some_iff.1 v
 have a2:0<sz:=by simpa [Nat.blt_eq] using r.pos
 have h:=grownCap_ge w m 0 e
 have a0:=grownCap_le_maxLen w m 0 e (by simp only [maxLen];omega)
 refine A8v (by rw [ho];rfl) ?_
 unfold Oper.wp
 rw [show (execOp ac.eval o).run P w=.ok (.value (.slice (some ⟨w.heap.size,0,none⟩) m (grownCap w m 0 e))) (w.drew.alloc (.cells (Builtin.zeroCells z.cells m++Builtin.zeroCells z.cells (grownCap w m 0 e - m)) e)) by
  simp [execOp,ho,resolve,hc,j,s,D0 u.has hx,D0 u.has hy,invoke,builtin,D6e (P:=P) (ty:=o.type) r.ty l hi hz m h0 t (by rw [h5];omega) opx]]
 obtain ⟨cur,hcur⟩:∃ cur,cur=Builtin.zeroCells z.cells m++Builtin.zeroCells z.cells (grownCap w m 0 e - m):=⟨_,rfl⟩
 rw [← hcur]
 have d:cur.toList.length=grownCap w m 0 e * sz:=by
  rw [hcur];simp only [Array.length_toList,Array.size_append,size_zeroCells,v,← Nat.add_mul];congr 1;omega
 have:=hk ⟨⟨some w.heap.size,grownCap w m 0 e,cur.toList⟩,⟨by simp [d],Nat.zero_le _,a0⟩,h⟩ (w.drew.alloc (.cells cur e)) (by
  refine cE.turn (L0:=[]) (show cE X (L++([]++[])) Φ w by simpa using u.world) ⟨rfl,rfl,rfl,by simp,fun k p _=>heap_alloc_old w.drew _ p⟩ ?_ (by simp [vo])
  intro e' he
  obtain rfl:e'=_:=by simpa [vo] using he
  exact ⟨by simpa using heap_alloc_new w.drew (.cells cur e),.inr (Nat.le_refl _)⟩)
 exact (by simpa [va] using this:K _ _)
theorem D1u {ops:Array Oper} {c:Nat} {b:Array Bool} {d:A0j} {Φs:List Pers} {q:Pers} (f:V3 Φ q) (h:JH P n X ops c b K d Φs E L (q::Φ)):JH P n X ops c b K d Φs E L Φ :=
 ⟨fun h1 h2 hsz hL hΦ a w hs=>h.go h1 h2 hsz hL (fun p e=>hΦ p (fun z g=>e z (List.mem_cons_of_mem _ g))) a w ⟨hs.size,hs.defers,hs.has,hs.world.fact q f⟩⟩
theorem E2i {o:Oper} {c:Call} {T e sz:Nat} {x:Operand} {q:Option Addr} {m k:Nat} (h:SlTy P T e sz) (d:o.op=.call c) (i:c.callee=.builtin .cap) (a:c.args=#[x]) (b:c.argTypes=#[T]) (f:ev E x=some (.slice q m k)):J9 P X o E L Φ (.int .i64 k):=.of_run fun j w g _=>by
 simp [execOp,d,resolve,i,a,b,D0 g f,invoke,builtin,Builtin.cap_,run_underlying h.ty,goInt]
end
section
variable {P:Program} {n:Nat} {X:Cx} {K:Act→World→Prop} {Q:Exit→Act→World→Prop} {E E':bY} {L L':Own} {Φ Φ':List Pers}
theorem E2y {ops:Array Oper} {e:Nat} {b:Array Bool} {d:A0j} {Φs:List Pers} {α:Type} {c:α→List Value} {T:Nat} {r:VR} {xs:List α} (pre post:Own) {sz:Nat} (f:bT sz xs.length r) (hL:L=pre++(vo c T r xs++post))
  (Lh:Own) (i:d.at b=Lh) (j:Lh.Sublist (pre++post)) (h:JH P n X ops e b K d Φs E (pre++post) (sl c (va r.q) xs::Φ)):JH P n X ops e b K d Φs E L Φ :=
 ⟨fun h1 h2 hsz _ hΦ a w hs=>h.go h1 h2 hsz (i▸j) (fun p g=>hΦ p (fun z k=>g z (List.mem_cons_of_mem _ k))) a w ⟨hs.size,hs.defers,hs.has,by have:=hs.world;rw [hL] at this;exact this.sealed f⟩⟩
theorem D4e {α:Type} {c:α→List Value} {sz:Nat} (a:∀ x,(c x).length=sz) (d:α):∀ (xs:List α) (k:Nat),k<xs.length→((xs.flatMap c).drop (k * sz)).take sz=c (xs.getD k d)
 | [],k,h=>by simp at h
 | x::xs,0,_=>by simp [List.take_append_of_le_length,← a x]
 | x::xs,k+1,h=>by
  have:=D4e a d xs k (by simpa using h)
  rw [List.flatMap_cons,Nat.succ_mul,Nat.add_comm,← List.drop_drop,← a x,List.drop_left,a x,this];simp
theorem C5i {α:Type} {c:α→List Value} {sz:Nat} (e:∀ x,(c x).length=sz) (d:α) {xs:List α} {k j:Nat} (a:k<xs.length) (b:j<sz):(xs.flatMap c)[k * sz+j]?=(c (xs.getD k d))[j]?:=by
 rw [← D4e e d xs k a,List.getElem?_take,if_pos b,List.getElem?_drop]
theorem F0l {α:Type} {f:α→List Value} {sz:Nat} (a:∀ x,(f x).length=sz) (d:α) (n:Nat):(madeCells (f d).toArray (n * sz)).toList=(List.replicate n d).flatMap f:=by
 apply List.ext_getElem?
 intro i
 by_cases h0:sz=0
 ·have:(List.replicate n d).flatMap f=[]:=List.length_eq_zero_iff.1 (by rw [G3 a];simp [h0])
  rw [this];simp [madeCells,h0]
 ·by_cases hi:i<n * sz
  ·have b:i / sz<n:=by rw [Nat.div_lt_iff_lt_mul opx];exact hi
   have c:i % sz<sz:=Nat.mod_lt _ opx
   have e:i / sz * sz+i % sz=i:=by rw [Nat.mul_comm];exact Nat.div_add_mod i sz
   have g:=C5i a d (xs:=List.replicate n d) (k:=i / sz) (j:=i % sz) (by simpa using b) c
   rw [e] at g
   rw [g]
   have:(List.replicate n d).getD (i / sz) d=d:=by simp [List.getD_eq_getElem?_getD,List.getElem?_replicate,b]
   rw [this]
   simp [madeCells,hi,a,c]
  ·rw [List.getElem?_eq_none (by simp [madeCells];omega),List.getElem?_eq_none (by rw [G3 a];simp;omega)]
theorem C3v {o:Oper} {T e sz b l c:Nat} {x y:Operand} {α:Type} {f:α→List Value} (d:α) (hT:ApTy P T e sz b) (hz:((P.info? e).bind (·.zero)).map (·.cells)=some (f d).toArray) (hf:∀ x,(f x).length=sz)
  (ho:o.op=.makeSlice T x y) (hx:ev E x=some (.int .i64 (l:Int))) (hy:ev E y=some (.int .i64 (c:Int))) (u:l≤c) (hb:c * b≤140737488355328) (a9:c≤9223372036854775807) :
  Tri P n X o E L Φ {g:VR // bT sz (List.replicate l d).length g} (fun g=>.slice (va g.1.q) (List.replicate l d).length g.1.k) (fun g=>L++(vo f e g.1 (List.replicate l d)++[])) (fun _=>Φ):=by
 intro ac w K Q t hk
 obtain ⟨i,hi,a⟩:=Option.map_eq_some_iff.1 hT.info
 simp only [Prod.mk.injEq] at a
 obtain ⟨h4,h5,h6⟩:=a
 obtain ⟨z,j,h7⟩:=Option.map_eq_some_iff.1 h6
 have s:z.cells=(f d).toArray:=by simpa [hi,j] using hz
 have r:(i.bytes:Int) * (c:Int)≤281474976710656:=by
  have h:((c * b:Nat):Int)≤140737488355328:=by omega
  rw [Int.natCast_mul,Int.mul_comm] at h
  rw [h5];omega
 have hr:=run_make (P:=P) w T e i z hT.ty hi j .i64 .i64 l c opx opx r opx
 simp only [Int.toNat_natCast,h4,s] at hr
 refine A8v (by rw [ho];rfl) ?_
 unfold Oper.wp
 rw [show (execOp ac.eval o).run P w=.ok (.value (.slice (some ⟨w.heap.size,0,none⟩) l c)) (w.alloc (.cells (madeCells (f d).toArray (c * sz)) e)) by
  simp [execOp,ho,D0 t.has hx,D0 t.has hy,hr]]
 have v:(madeCells (f d).toArray (c * sz)).toList=(List.replicate l d).flatMap f++(List.replicate (c - l) d).flatMap f:=by
  rw [F0l hf,← List.flatMap_append,List.replicate_append_replicate];congr 2;omega
 have p:((List.replicate (c - l) d).flatMap f).length=(c - l) * sz:=by rw [G3 hf,List.length_replicate]
 have:=hk ⟨⟨some w.heap.size,c,(List.replicate (c - l) d).flatMap f⟩,by
  refine ⟨?_,by simpa using u,by simp only [maxLen];omega⟩
  simp only [List.length_replicate,p,← Nat.add_mul];congr 1;omega⟩ (w.alloc (.cells (madeCells (f d).toArray (c * sz)) e)) (by
  refine cE.turn (L0:=[]) (show cE X (L++([]++[])) Φ w by simpa using t.world) ⟨rfl,rfl,rfl,by simp,fun k m _=>heap_alloc_old w _ m⟩ ?_ (by simp [vo])
  intro e' he
  obtain rfl:e'=_:=by simpa [vo] using he
  refine ⟨?_,.inr (Nat.le_refl _)⟩
  rw [← v]
  simpa using heap_alloc_new w (.cells (madeCells (f d).toArray (c * sz)) e))
 exact (by simpa [va] using this:K (ac.put o.dst (.slice (some ⟨w.heap.size,0,none⟩) l c)) (w.alloc (.cells (madeCells (f d).toArray (c * sz)) e)))
theorem E1e {o:Oper} {c:Call} {T e sz d:Nat} {x y:Operand} {q h:Option Addr} {m k cc:Nat} (g:ApTy P T e sz d) (j:o.op=.call c) (s:c.callee=.builtin .append) (a:c.args=#[x,y]) (b:c.argTypes=#[T,T])
  (p:ev E x=some (.slice q m k)) (l:ev E y=some (.slice h 0 cc)) (r:m≤k):J9 P X o E L Φ (.slice q m k):=.of_run fun t w f _=>by
 obtain ⟨i,n,_⟩:=Option.map_eq_some_iff.1 g.info
 have:=D0w (P:=P) (w:=w) (ty:=o.type) g.ty n q h m k r cc
 simp [execOp,j,resolve,s,a,b,D0 f p,D0 f l,invoke,builtin,this]
end
theorem E7c (a b:Int):(if b<a then b else a)≤a∧(if b<a then b else a)≤b∧((if b<a then b else a)=a∨(if b<a then b else a)=b):=by split<;>omega
theorem C6b (a b:Int):a≤(if b > a then b else a)∧b≤(if b > a then b else a)∧((if b > a then b else a)=a∨(if b > a then b else a)=b):=by split<;>omega
def B6 {α β:Type} (x:α) (k:α→β):β:=k x
theorem C4 {α β:Type} {x:α} {k:α→β} {R:β} (h:B6 x k=R):∃ r,x=r∧k r=R:=⟨x,rfl,h⟩
@[simp] theorem F4i {α β:Type} (x:α) (k:α→β):B6 x k=k x:=rfl
def F2x (x:Int):List Value:=[.int .u64 x]
def lkV (k:Int) (z:Value):List (Int×Value)→Value
 | []=>z
 | (a,v)::r=>bif decide (k=a) then v else lkV k z r
def A1r {α:Type} (k:Int):List (Int×α)→Bool
 | []=>false
 | (a,_)::r=>bif decide (k=a) then true else A1r k r
def lkB (k:Int) (z:Bool):List (Int×Bool)→Bool
 | []=>z
 | (a,v)::r=>bif decide (k=a) then v else lkB k z r
def B9:List (Int×Value)→Nat→List MapEntry
 | [],_=>[]
 | (a,v)::r,j=>⟨.int .i64 a,v,j⟩::B9 r (j+1)
theorem C5p (k:Int):∀ (l:List (Int×Value)) (j i:Nat),∃ r,Instr.findNow (.int .i64) (.int .i64 k) (B9 l j) i=some r ∧
  (r=none→A1r k l=false∧∀ z,lkV k z l=z)∧∀ p,r=some p→A1r k l=true∧∀ z,lkV k z l=p.2
 | [],j,i=>⟨none,rfl,fun _=>⟨rfl,fun _=>rfl⟩,fun _ h=>by cases h⟩
 | (a,v)::l,j,i=>by
  by_cases h:k=a
  ·refine ⟨some (i,v),?_,fun h=>(by cases h),fun p b=>?_⟩
   ·simp [B9,Instr.findNow,Instr.sameNow,h]
   ·cases b;simp [A1r,lkV,h]
  ·obtain ⟨r,d,c,f⟩:=C5p k l (j+1) (i+1)
   refine ⟨r,?_,fun e=>?_,fun p b=>?_⟩
   ·have hb:(k == a)=false:=by simpa using h
    simp only [B9,Instr.findNow,Instr.sameNow,if_true,hb];exact d
   ·simpa [A1r,lkV,h] using c e
   ·simpa [A1r,lkV,h] using f p b
section
variable {P:Program} {n:Nat} {X:Cx} {K:Act→World→Prop} {Q:Exit→Act→World→Prop} {E E':bY} {L L':Own} {Φ Φ':List Pers}
theorem F3k {α:Type} {c:α→List Value} {a:Addr} {xs:List α} {us:List Value} (j:Nat) (h:Φ[j]?=some (sl c (some a) xs)) (d:xs.flatMap c=us):V3 Φ (at_ a us) :=
 fun p b=>d▸(show A8y p a (xs.flatMap c) from b _ (List.mem_of_getElem? h))
theorem D8a {o:Oper} {T kt e:Nat} {m s:Operand} {b:Nat} {k:Int} {z:Value} {es:Array MapEntry} {g:Nat} (l:List (Int×Value)) (a:MapTy P T kt e (.int .i64)) (h:o.op=.lookup T m s false) (n:ev E m=some (.map (some b))) (q:ev E s=some (.int .i64 k))
  (i:Nat) (y:L[i]?=some (b,.map es g)) (he:es.toList=B9 l 0) (hz:(P.info? e).bind (·.zero)=some z):J9 P X o E L Φ (lkV k z l):=.of_run fun ac w c t=>by
 have hb:=C8n t y
 obtain ⟨a4,h1,u⟩:=Option.bind_eq_some_iff.1 hz
 have f:(zeroValue e).run P w=.ok z w:=by simp [zeroValue,B2e h1,u]
 obtain ⟨r,d,hn,x⟩:=C5p k l 0 0
 rw [← he] at d
 cases r with
 | none =>
  rw [(hn rfl).2]
  simp [execOp,h,D0 c n,D0 c q,Instr.lookup,run_underlying a.ty,E4h hb,A7i a,A9j a d,f]
 | some p =>
  rw [(x p rfl).2]
  obtain ⟨j,v⟩:=p
  simp [execOp,h,D0 c n,D0 c q,Instr.lookup,run_underlying a.ty,E4h hb,A7i a,A9j a d]
theorem A7l {o:Oper} {T kt e:Nat} {m u:Operand} {b:Nat} {k:Int} {z:Value} {es:Array MapEntry} {g:Nat} (l:List (Int×Value)) (a:MapTy P T kt e (.int .i64)) (h:o.op=.lookup T m u true) (s:ev E m=some (.map (some b))) (t:ev E u=some (.int .i64 k))
  (i:Nat) (hi:L[i]?=some (b,.map es g)) (he:es.toList=B9 l 0) (hz:(P.info? e).bind (·.zero)=some z):J9 P X o E L Φ (.tuple #[lkV k z l,.bool (A1r k l)]):=.of_run fun ac w c x=>by
 have hb:=C8n x hi
 obtain ⟨a4,h1,y⟩:=Option.bind_eq_some_iff.1 hz
 have f:(zeroValue e).run P w=.ok z w:=by simp [zeroValue,B2e h1,y]
 obtain ⟨r,d,q,n⟩:=C5p k l 0 0
 rw [← he] at d
 cases r with
 | none =>
  rw [(q rfl).2,(q rfl).1]
  simp [execOp,h,D0 c s,D0 c t,Instr.lookup,run_underlying a.ty,E4h hb,A7i a,A9j a d,f]
 | some p =>
  rw [(n p rfl).2,(n p rfl).1]
  obtain ⟨j,v⟩:=p
  simp [execOp,h,D0 c s,D0 c t,Instr.lookup,run_underlying a.ty,E4h hb,A7i a,A9j a d]
theorem E3p (F:Value→Value→Value) (k:Int) (z1 z2:Value):∀ (l:List (Int×Value×Value)),lkV k (F z1 z2) (l.map fun x=>(x.1,F x.2.1 x.2.2))=F (lkV k z1 (l.map fun x=>(x.1,x.2.1))) (lkV k z2 (l.map fun x=>(x.1,x.2.2)))
 | []=>rfl
 | (a,u,v)::l=>by
  simp only [List.map_cons,lkV]
  cases decide (k=a) with
  | true=>rfl
  | false=>exact E3p F k z1 z2 l
theorem D4l (F:Value→Value→Value→Value) (k:Int) (z1 z2 z3:Value):∀ (l:List (Int×Value×Value×Value)),lkV k (F z1 z2 z3) (l.map fun x=>(x.1,F x.2.1 x.2.2.1 x.2.2.2)) =
  F (lkV k z1 (l.map fun x=>(x.1,x.2.1))) (lkV k z2 (l.map fun x=>(x.1,x.2.2.1))) (lkV k z3 (l.map fun x=>(x.1,x.2.2.2)))
 | []=>rfl
 | (a,u,v,w)::l=>by
  simp only [List.map_cons,lkV]
  cases decide (k=a) with
  | true=>rfl
  | false=>exact D4l F k z1 z2 z3 l
theorem E0d (k:Int) (z:Bool):∀ (l:List (Int×Bool)),lkV k (.bool z) (l.map fun x=>(x.1,.bool x.2))=.bool (lkB k z l)
 | []=>rfl
 | (a,v)::l=>by
  simp only [List.map_cons,lkV,lkB]
  cases decide (k=a) with
  | true=>rfl
  | false=>exact E0d k z l
def D4 (P:Program) (a:Value) (args:List Value) (Φ0:List Pers) (v:Value):Prop :=
 ∃ (k:FuncId) (first cap:Array Value),a=.func (.func k) first cap∧J5 P k ((first++args.toArray++cap).toList) Φ0 v
theorem D4.of {k:FuncId} {first cap:Array Value} {args a:List Value} {Φ0 Φ1:List Pers} {v:Value} (h:J5 P k a Φ1 v) (e:(first++args.toArray++cap).toList=a) (b:A7 Φ0 Φ1):D4 P (.func (.func k) first cap) args Φ0 v :=
 ⟨k,first,cap,rfl,e▸⟨h.1,fun w p d f c=>h.2 w p (b p d) f c⟩⟩
theorem D4.cons {ρ:Type} (val:ρ→Value) {k a:Int} {z v:Value} {l:List (Int×Value)} {args:List Value} {Φ0:List Pers} {c b:ρ} (h:A1r k ((a,v)::l)=true) (f:k=a→D4 P v args Φ0 (val c)) (d:A1r k l=true→¬ k=a→D4 P (lkV k z l) args Φ0 (val b)) :
  D4 P (lkV k z ((a,v)::l)) args Φ0 (val (bif decide (k=a) then c else b)):=by
 by_cases e:k=a
 ·simpa [lkV,e] using f e
 ·simpa [lkV,e] using d (by simpa [A1r,e] using h) e
theorem D4.nil {k:Int} {z v:Value} {args:List Value} {Φ0:List Pers} (h:A1r k ([]:List (Int×Value))=true):D4 P z args Φ0 v:=by cases h
theorem A7k {o:Oper} {c:Call} {f:Operand} {a:Value} {e:List Value} {Φ0:List Pers} {v:Value}
  (d:D4 P a e Φ0 v) (i:o.op=.call c) (j:c.callee=.value f) (g:ev E f=some a) (b:c.args.toList.mapM (ev E)=some e) (hΦ:A7 Φ Φ0):Det P X o E L Φ v:=by
 obtain ⟨k,first,cap,rfl,h⟩:=d
 exact B6r h i j g b rfl hΦ
def C7h (P:Program) (a:Value) (args:List Value) (Φ0:List Pers) {ρ:Type} (pv:Value) (R:Option ρ) (val:ρ→Value):Prop :=
 ∃ (k:FuncId) (first cap:Array Value),a=.func (.func k) first cap∧D2w P k ((first++args.toArray++cap).toList) [] Φ0 pv R val
theorem C7h.of {k:FuncId} {first cap:Array Value} {args a:List Value} {Φ0 Φ1:List Pers} {ρ:Type} {pv:Value} {R:Option ρ} {val:ρ→Value} (h:D2w P k a [] Φ1 pv R val) (e:(first++args.toArray++cap).toList=a) (b:A7 Φ0 Φ1):C7h P (.func (.func k) first cap) args Φ0 pv R val :=
 ⟨k,first,cap,rfl,e▸⟨h.1,fun w p d f c=>h.2 w p (b p d) f c⟩⟩
theorem C7h.cons {ρ:Type} {pv:Value} {val:ρ→Value} {k a:Int} {z v:Value} {l:List (Int×Value)} {args:List Value} {Φ0:List Pers} {c b:Option ρ} (h:A1r k ((a,v)::l)=true) (f:k=a→C7h P v args Φ0 pv c val) (d:A1r k l=true→¬ k=a→C7h P (lkV k z l) args Φ0 pv b val) :
  C7h P (lkV k z ((a,v)::l)) args Φ0 pv (bif decide (k=a) then c else b) val:=by
 by_cases e:k=a
 ·simpa [lkV,e] using f e
 ·simpa [lkV,e] using d (by simpa [A1r,e] using h) e
theorem C7h.nil {k:Int} {z:Value} {args:List Value} {Φ0:List Pers} {ρ:Type} {pv:Value} {R:Option ρ} {val:ρ→Value} (h:A1r k ([]:List (Int×Value))=true):C7h P z args Φ0 pv R val:=by cases h
theorem oiu {p:Prop} (h:p:=by assumption):p:=h
theorem E5n {β:Type} {c:β→List Value} {n:Nat}:V3 Φ (D5 c (List.replicate n (⟨none,0,0⟩:Slc)) (List.replicate n ([]:List β))):=fun p d i r xs a b=>by
 rw [List.getElem?_replicate] at a b
 split at a
 ·cases a;rw [if_pos oiu] at b;cases b;exact rfl
 ·cases a
theorem B4.rep {β:Type} (n:Nat):B4 (List.replicate n (⟨Option.none,0,0⟩:Slc)) (List.replicate n ([]:List β)):=⟨by simp,fun i r xs a b=>by
 rw [List.getElem?_replicate] at a b
 split at a
 ·cases a;rw [if_pos oiu] at b;cases b;exact ⟨rfl,Nat.le_refl _,by simp⟩
 ·cases a⟩
end
def C5d (P:Program) (l:Nat) (v a:Value) (L:Own) (Φ:List Pers) (post:Bool→Own→List Pers→Prop):Prop :=
 ∀ (w:World) (h:Hp),(∀ q ∈ Φ,q.p h)→h.sub w→A3j L h w →
  YieldAt Fence.wide 0 P l #[v,a] w fun e w'=>∃ b L' Φ',e=.returned (.bool b)∧post b L' Φ'∧cE (cx w h (L.map Prod.fst)) L' Φ' w'
def D1f (P:Program) (gf:FuncId) (a:List Value) (Φ0:List Pers) {β:Type} (enc enc2:β→Value) (xs:List β):Prop :=
 HasBody P gf∧∀ (l:Nat) (w:World) (h:Hp) (I:List β→Own→List Pers→Prop) (Ix:Own→List Pers→Prop) (L:Own) (Φ:List Pers),I xs L Φ→(∀ q ∈ Φ0,q.p h)→(∀ q ∈ Φ,q.p h)→h.sub w→A3j L h w →
  (∀ x rest L Φ,I (x::rest) L Φ→C5d P l (enc x) (enc2 x) L Φ fun b L' Φ'=>if b then I rest L' Φ' else Ix L' Φ') →
  Calls P gf (#[.func (.yield l) #[] #[]]++a.toArray) w fun e w'=>(∃ v,e=.returned v)∧∃ L' Φ',(I [] L' Φ'∨Ix L' Φ')∧cE (cx w h (L.map Prod.fst)) L' Φ' w'
section
variable {P:Program} {n:Nat} {X:Cx} {K:Act→World→Prop} {Q:Exit→Act→World→Prop} {E E':bY} {L L':Own} {Φ Φ':List Pers}
theorem E0z {gf:FuncId} {g:Func} {c:Code} {a:List Value} {Φ0:List Pers} {β:Type} {enc enc2:β→Value} {xs:List β}
  (m : P.funcs[gf]? = some g) (hb : g.body = some c) (k : (g.name == "runtime.NumGoroutine") = false) (r : g.ntmps = n) (j : Nat.ble (a.length + 1) n = true) (E0 : Nat → bY) (hE : ∀ l, O1 ((List.range (a.length + 1)).zip (.func (.yield l) #[] #[] :: a)) (E0 l))
  (h:∀ (X:Cx) (l:Nat) (I:List β→Own→List Pers→Prop) (Ix:Own→List Pers→Prop) (L:Own) (Φ:List Pers),X.M=L.map Prod.fst→X.rho=none→X.D=[]→I xs L Φ →
   (∀ x rest L Φ,I (x::rest) L Φ→C5d P l (enc x) (enc2 x) L Φ fun b L' Φ'=>if b then I rest L' Φ' else Ix L' Φ')→J P n X c (D4n P X g fun L' Φ'=>I [] L' Φ'∨Ix L' Φ') (E0 l) (L++[]) (Φ0++Φ)):D1f P gf a Φ0 enc enc2 xs:=by
 refine ⟨⟨by simp [m,hb,k]⟩,fun l w p I Ix L Φ hI hΦ0 hΦ hs ho hy=>?_⟩
 have f:(#[.func (.yield l) #[] #[]]++a.toArray:Array Value)=(Value.func (.yield l) #[] #[]::a).toArray:=by simp
 rw [f]
 simp only [List.append_nil] at h
 refine (callsIn_wide).1 (callsIn_of_wp_marks m hb trivial (h (cx w p _) l I _ L _ rfl rfl rfl hI hy _ w ⟨?_,rfl,?_,p,⟨?_,hs,Hp.le_refl p,fun b hb=>.inl hb,ho,fun e t=>.inl (List.mem_map_of_mem t),KeptBut.refl _ w,fun d s=>(by cases s)⟩⟩))
 ·have o:a.length+1≤n:=Nat.le_of_ble_eq_true j
  simp [r];omega
 ·rw [r]
  exact B6w (args:=Value.func _ _ _::a) j (hE l)
 ·intro q i
  rcases List.mem_append.1 i with i | i
  ·exact hΦ0 q i
  ·exact hΦ q i
theorem E1w {o:Oper} {c:Call} {z:Operand} {l:Nat} {v y:Value} {L0 L2:Own} {Φ0:List Pers} {post:Bool→Own→List Pers→Prop} (hy:C5d P l v y L0 Φ0 post)
  (u:o.op=.call c) (r:c.callee=.value z) (hf:ev E z=some (.func (.yield l) #[] #[])) (j:c.args.toList.mapM (ev E)=some [v,y]) (hΦ:A7 Φ Φ0) (hL:L.Perm (L0++L2)) :
  Tri P n X o E L Φ {σ:Bool×Own×List Pers // post σ.1 σ.2.1 σ.2.2} (fun σ=>.bool σ.1.1) (fun σ=>σ.1.2.1++L2) (fun σ=>σ.1.2.2++Φ):=by
 intro a w K Q t hk
 obtain ⟨p,q⟩:=t.world
 have m:A3j (L0++L2) p w:=⟨fun e he=>q.own.1 e (hL.symm.subset he),(hL.map Prod.fst).nodup_iff.1 q.own.2⟩
 obtain ⟨x,i,d,g,s,f⟩:=hy w p (hΦ p q.facts) q.sub (m.sub (List.sublist_append_left _ _))
 have hr:(execOp a.eval o).run P w=.ok (.round l x i d g) w:=by
  simp [execOp,u,resolve,r,D0 t.has hf,Deferred.ofValue,B2c t.has j,invoke,s]
 refine ⟨fun _ _=>trivial,?_⟩
 rw [Oper.semAt_eq _ _ _ (fun c r=>by rw [u] at r;cases r),hr]
 refine ⟨A7w,?_⟩
 have hR:RoundIn (FW X.rho) 0 P l x i d g w _:=f
 refine hR.mono fun e w' hx=>?_
 obtain ⟨b,L',Φ',rfl,k,hw⟩:=hx
 exact hk ⟨(b,_,_),k⟩ _ (cE.call q hL hw)
theorem E7d {g:Operand} {p p2:Nat} {ps:Array Tmp} {assign body:Code} {gf:FuncId} {lb:List Value} {Φ0:List Pers} {β:Type} {enc enc2:β→Value} {xs:List β}
  (af:X.rho=none) (hg:ev E g=some (.func (.func gf) #[] lb.toArray)) (ao:D1f P gf lb Φ0 enc enc2 xs) (hΦ0:A7 Φ Φ0) (b0:ps=#[p,p2]) (b1:Y5 n (some p)=true) (au:Y5 n (some p2)=true)
  {σ:Type} (I:List β→σ→Prop) (Jx:Code→σ→Prop) (Lk:σ→Own) (Φk:σ→List Pers) (s0:σ) (h0:I xs s0) (hL:(Lk s0).Sublist L) (hΦ:A7 Φ (Φk s0))
  (a7:∀ x rest s,I (x::rest) s→∀ (Y Y':Cx) (K:Act→World→Prop),Y.rho.isSome=true →
   (∀ E L Φ,J P n Y' body (RP Y' I Jx Lk Φk rest) E L Φ→JQ n Y K E L Φ)→J P n Y assign (Exit.then K (fun _ _ _=>False)) (bY.put (bY.put E (some p) (enc x)) (some p2) (enc2 x)) (Lk s) (Φk s))
  (a6:∀ d s,d ∉ X.D.map Prod.fst→I [] s→JQ n (X.wd ((d,.deferred (some []))::X.D)) (Q .normal) E (Lk s) (Φk s))
  (aj:∀ d c s,d ∉ X.D.map Prod.fst→Jx c s→J P n (X.wd ((d,.deferred (some []))::X.D)) c Q E (Lk s) (Φk s)):J P n X (.rangeFunc g ps assign body) Q E L Φ:=by
 intro a w u
 subst b0
 rw [af]
 refine wpIn_rangeFunc ?_
 intro fn _
 obtain ⟨f,hrec⟩:∃ f:LoopState→Option Code→Loop,f=fun z pe=>{state:=z,pending:=pe,fn,tmps:=a.tmps,params:=#[p,p2],assign,body,defers:=w.heap.size}:=⟨_,rfl⟩
 have he:=run_enterLoop_outer (P:=P) (w:=w) fn a.tmps #[p,p2] assign body
 rw [show ({state:=.ready,pending:=none,fn:=fn,tmps:=a.tmps,params:=#[p,p2],assign:=assign,body:=body,defers:=w.heap.size}:Loop)=f .ready none by rw [hrec]] at he
 obtain ⟨w1,hw1⟩:∃ w1,(w.alloc (.deferred (some []))).alloc (.loop (f .ready none))=w1:=⟨_,rfl⟩
 rw [hw1] at he
 refine ⟨_,[B8t _],_,{target:=.fn (.func gf) lb.toArray,args:=#[.func (.yield (w.heap.size+1)) #[] #[]]},w1,gf,
  #[.func (.yield (w.heap.size+1)) #[] #[]]++lb.toArray,w1,he,?_,fun _ _=>trivial,?_,A7w,?_⟩
 ·simp only [resolve,D0 u.has hg]
  simp [go_sem]
 ·simp [invoke,A1f ao.1]
 ·-- the caller's state,the two blocks laid
  have ah:cE X ((w.heap.size+1,.loop (f .ready none))::(w.heap.size,.deferred (some []))::Lk s0) Φ w1:=by
   have h1:=(u.world.sub hL).alloc (.deferred (some []))
   have h2:=h1.alloc (.loop (f .ready none))
   rw [World.size_alloc,hw1] at h2
   exact h2
  have ap:w.heap.size ∉ X.D.map Prod.fst:=fun hm=>by
   obtain ⟨e,ab,hE⟩:=List.mem_map.1 hm
   obtain ⟨q,hq⟩:=u.world
   have:=(Array.getElem?_eq_some_iff.1 (hq.res e ab).1).1
   omega
  obtain ⟨q,hq⟩:=ah
  let It:List β→Own→List Pers→Prop:=fun rem L Φ=>∃ s,I rem s∧L=(w.heap.size+1,.loop (f .ready none))::(w.heap.size,.deferred (some []))::Lk s∧Φ=Φk s
  let Itx:Own→List Pers→Prop:=fun L Φ=>∃ c s,Jx c s∧L=(w.heap.size+1,.loop (f .done (some c)))::(w.heap.size,.deferred (some []))::Lk s∧Φ=Φk s
  have ad:=ao.2 (w.heap.size+1) w1 q It Itx _ (Φk s0) ⟨s0,h0,rfl,rfl⟩ (hΦ0 q hq.facts) (hΦ q hq.facts) hq.sub hq.own ?_
  ·refine B4n (ad.mono fun e w' hx=>?_)
   obtain ⟨⟨v,rfl⟩,L',Φ',hI,az⟩:=hx
   have am:=cE.call (L0:=(w.heap.size+1,.loop (f .ready none))::(w.heap.size,.deferred (some []))::Lk s0) (L2:=[]) hq oom az
   rw [List.append_nil] at am
   have l:∀ (z:LoopState) (pe:Option Code) (s:σ),z≠.busy→L'=(w.heap.size+1,.loop (f z pe))::(w.heap.size,.deferred (some []))::Lk s→Φ'=Φk s →
     (Instr.endLoop (w.heap.size+1)).run P w'=.ok pe (w'.putObj (w.heap.size+1) (.loop {f z pe with state:=.exhausted})) ∧
     St n (X.wd ((w.heap.size,.deferred (some []))::X.D)) E (Lk s) (Φk s) {a with defers:=[B8t w.heap.size]++a.defers} (w'.putObj (w.heap.size+1) (.loop {f z pe with state:=.exhausted})):=fun z pe s ah r hΦ'=>by
    subst r hΦ'
    obtain ⟨q2,hq2⟩:=am
    have hl:=(hq2.own.1 _ (List.mem_cons_self ..)).1
    simp only at hl
    have i:=run_endLoop (P:=P) hl (by rw [hrec];exact ah)
    rw [hrec] at i ⊢
    refine ⟨i,⟨u.size,?_,u.has,?_⟩⟩
    ·show [B8t w.heap.size]++a.defers=_
     rw [u.defers]
     unfold Cx.marks Cx.wd
     simp only [af];rfl
    ·have y:cE X ((w.heap.size,.deferred (some []))::Lk s) (Φk s++Φ) (w'.putObj (w.heap.size+1) (.loop {f z pe with state:=.exhausted})):=by
      have h4:=cE.reserve (X:=X) ⟨q2,hq2⟩
      have a8:=hq2.own.2
      have h5:=cE.take (X:=X) (d:=(w.heap.size+1,.loop (f z pe))) (ds:=X.D) ?_ (.loop {f z pe with state:=.exhausted}) h4
      ·exact h5
      ·intro hm
       obtain ⟨e,ab,hE⟩:=List.mem_map.1 hm
       obtain ⟨q3,hq3⟩:=u.world
       have:=(Array.getElem?_eq_some_iff.1 (hq3.res e ab).1).1
       simp only at hE;omega
     rw [hrec] at y
     exact y.reserve.foll fun p hp q hq=>hp q (List.mem_append_left _ hq)
   rcases hI with ⟨s,hI,r,hΦ'⟩ | ⟨c,s,hI,r,hΦ'⟩
   ·obtain ⟨i,aa⟩:=l .ready none s oom r hΦ'
    exact ⟨_,_,i,a6 _ s ap hI _ _ aa⟩
   ·obtain ⟨i,aa⟩:=l .done (some c) s oom r hΦ'
    have h6:=aj _ c s ap hI _ _ aa
    have:(X.wd ((w.heap.size,.deferred (some []))::X.D)).rho=none:=af
    rw [this] at h6
    exact ⟨_,_,i,h6⟩
  ·-- one round
   rintro x rest L0 Φ0 ⟨s,hIs,rfl,rfl⟩ wr hr hfr hsr hor
   have hl:=(hor.1 _ (List.mem_cons_self ..)).1
   simp only at hl
   have hy:=run_yield (P:=P) (args:=#[enc x,enc2 x]) hl (by rw [hrec];rfl)
   rw [hrec] at hy
   refine ⟨_,_,assign,body,hy,roundIn_of_wpIn trivial ?_⟩
   let M0:List Nat:=(w.heap.size+1)::w.heap.size::(Lk s).map Prod.fst
   let Y:Cx:=⟨wr,hr,M0,some (w.heap.size+1),[(w.heap.size+1,.loop (f .ready none)),(w.heap.size,.deferred (some []))]⟩
   let Y':Cx:=⟨wr,hr,M0,some (w.heap.size+1),[(w.heap.size+1,.loop {f .ready none with state:=.busy}),(w.heap.size,.deferred (some []))]⟩
   have hb:=a7 x rest s hIs Y Y' (fun a₁ w₁=>∃ w₂,(Instr.beginRound (w.heap.size+1)).run P w₁=.ok () w₂∧body.wpIn (Fence.wide.inRound (w.heap.size+1)) 0 P
    (roundPost P (w.heap.size+1) fun e w'=>∃ b L' Φ',e=.returned (.bool b)∧(if b then It rest L' Φ' else Itx L' Φ')∧cE (cx wr hr M0) L' Φ' w') a₁ w₂) rfl ?_
   ·refine hb _ _ ⟨?_,rfl,?_,_,⟨hfr,hsr,Hp.le_refl _,fun b hb=>.inl hb,hor.sub ((List.sublist_cons_self _ _).trans (List.sublist_cons_self _ _)),fun e he=>.inl ?_,KeptBut.refl _ _,fun d hd=>?_⟩⟩
    ·have:a.tmps.size=n:=u.size
     simp [this]
    ·have h1:=u.has.put (d:=p) (by rw [u.size];simpa [Y5,Nat.blt_eq] using b1) (enc x)
     have:=h1.put (d:=p2) (by rw [Act.put_size,u.size];simpa [Y5,Nat.blt_eq] using au) (enc2 x)
     exact fun t v e=>by simpa [Act.put] using this t v e
    ·exact List.mem_cons_of_mem _ (List.mem_cons_of_mem _ (List.mem_map_of_mem he))
    ·have a8:=hor.2
     simp only [List.map_cons,List.nodup_cons,List.mem_cons,not_or] at a8
     simp only [Y,List.mem_cons,List.not_mem_nil,or_false] at hd
     rcases hd with rfl | rfl
     ·exact ⟨hl,(hor.1 _ (List.mem_cons_self ..)).2,fun e he hE=>a8.1.2 (by simp only at hE;rw [← hE];exact List.mem_map_of_mem he),.inr (by simp [Y,M0])⟩
     ·have h1:=hor.1 _ (List.mem_cons_of_mem _ (List.mem_cons_self ..))
      exact ⟨h1.1,h1.2,fun e he hE=>a8.2.1 (by simp only at hE;rw [← hE];exact List.mem_map_of_mem he),.inr (by simp [Y,M0])⟩
   ·-- the record turns to busy;the body;the record turns back
    intro E1 L1 Φ1 hJ a1 w2 hs1
    obtain ⟨q1,hq1⟩:=hs1.world
    have an:=(hq1.res (w.heap.size+1,.loop (f .ready none)) (by simp [Y])).1
    simp only at an
    refine ⟨_,run_beginRound an (by rw [hrec]),?_⟩
    have aq:cE Y' L1 Φ1 (w2.putObj (w.heap.size+1) (.loop {f .ready none with state:=.busy})):=by
     have:=cE.reput (X:=Y) (d:=w.heap.size+1) (o:=.loop (f .ready none)) (o':=.loop {f .ready none with state:=.busy}) (ds:=[(w.heap.size,.deferred (some []))]) oom hs1.world
     exact this
    have ac:=hJ a1 _ ⟨hs1.size,hs1.defers,hs1.has,aq⟩
    refine Code.wpIn_mono (fun e a2 w3 hp=>?_) ac
    have ae:∀ (j:Option Code) (k:σ),cE Y' (Lk k) (Φk k) w3 →
      (Instr.endRound (w.heap.size+1) j).run P w3=.ok (.bool j.isNone) (w3.putObj (w.heap.size+1) (.loop (f (if j.isNone then .ready else .done) j))) ∧
      cE (cx wr hr M0) ((w.heap.size+1,.loop (f (if j.isNone then .ready else .done) j))::(w.heap.size,.deferred (some []))::Lk k) (Φk k) (w3.putObj (w.heap.size+1) (.loop (f (if j.isNone then .ready else .done) j))):=fun j k y=>by
     obtain ⟨q3,hq3⟩:=y
     have av:=(hq3.res (w.heap.size+1,.loop {f .ready none with state:=.busy}) (by simp [Y'])).1
     simp only at av
     have i:=run_endRound (P:=P) j av
     refine ⟨by rw [hrec] at i ⊢;exact i,?_⟩
     have h4:=cE.reput (X:=Y') (d:=w.heap.size+1) (o:=.loop {f .ready none with state:=.busy}) (o':=.loop (f (if j.isNone then .ready else .done) j)) (ds:=[(w.heap.size,.deferred (some []))]) oom ⟨q3,hq3⟩
     exact cE.unres oom h4
    cases e with
    | normal =>
     obtain ⟨k,m,y⟩:=hp
     obtain ⟨i,h4⟩:=ae none k y
     exact ⟨_,_,i,true,_,_,rfl,⟨k,m,rfl,rfl⟩,h4⟩
    | ret =>
     obtain ⟨k,m,y⟩:=hp
     obtain ⟨i,h4⟩:=ae (some .ret) k y
     exact ⟨_,_,i,false,_,_,rfl,⟨.ret,k,m,rfl,rfl⟩,h4⟩
    | exit id =>
     obtain ⟨k,m,y⟩:=hp
     obtain ⟨i,h4⟩:=ae (some (.exit id)) k y
     exact ⟨_,_,i,false,_,_,rfl,⟨.exit id,k,m,rfl,rfl⟩,h4⟩
    | goto t=>exact hp.elim
    | panic c=>exact hp.elim
    | outgrown=>exact hp.elim
end
end Go.Fen
namespace Go.Fen
open Go Go.RowKit Go.ChangeShapes
section
variable {P:Program}
def Cod (P:Program) (T:TypeId) (α:Type) (c:α→List Value) (D:{H:Type}→DataW H→α→Prop) (p:Hp→α→Prop):Prop :=
 ∀ {H:Type} {enc:TypeId×Value→H} {w:World} {e:Nat} {g:Nat→Bool} {f:Bool} {d:Nat} {cs:List Value} {x:DataW H×List MemPlace},
  DataW.trod enc P w e g f d T cs=some x→∃ a:α,cs=c a∧D x.1 a∧p (fun b=>w.heap[b]?) a
def B6p {H:Type} (d:DataW H) (n:Int):Prop:=d=.lit (.int .i64 n)
def F1f {H:Type} (d:DataW H) (b:Bool):Prop:=d=.lit (.bool b)
def F6m {H:Type} (d:DataW H) (s:List UInt8):Prop:=d=.lit (.string s)
def A9c (n:Int):Prop:=-9223372036854775808≤n∧n≤9223372036854775807
theorem F5o {k:IntKind} {n:Int} (h:(Lit.int k n).wf=true):k.min≤n∧n≤k.max:=by
 simpa only [Lit.wf,decide_eq_true_eq,Bool.and_eq_true] using h
theorem A1t {T:TypeId} (b:P.underlying T=some (.int .i64)):Cod P T Int H5 B6p (fun _=>A9c):=fun h=>by
 obtain ⟨n,rfl,rfl,a⟩:=DataW.trod_int b h
 exact ⟨n,rfl,rfl,F5o a⟩
theorem D8p {T:TypeId} (a:P.underlying T=some .bool):Cod P T Bool A8z F1f (fun _ _=>True):=fun h=>by
 obtain ⟨b,rfl,rfl⟩:=DataW.trod_bool a h
 exact ⟨b,rfl,rfl,trivial⟩
theorem E9f {T:TypeId} (a:P.underlying T=some .string):Cod P T (List UInt8) F3x F6m (fun _ s=>s.length≤9223372036854775807):=fun h=>by
 obtain ⟨s,rfl,rfl,b⟩:=DataW.trod_string a h
 refine ⟨s.data.toList,by simp [F3x,bs],rfl,?_⟩
 have e:s.data.toList.length=s.size:=by simp
 show s.data.toList.length≤9223372036854775807
 rw [e];simpa [maxLen] using b
theorem B8v {α β:Type} {f:α→Option β} {l:List α} {r:List β} (h:l.mapM f=some r) (i:Nat) (a:α) (c:l[i]?=some a):∃ b,r[i]?=some b∧f a=some b:=Lib.mapM_at h i a c
theorem J6 {cs:List Value} {o n m:Nat} {u rest:List Value} (h:(cs.drop o).take n=u) (hr:cs.drop m=rest) (a:o+n=m):cs.drop o=u++rest:=by
 subst h hr a;rw [← List.drop_drop,List.take_append_drop]
theorem A4v {H:Type} {enc:TypeId×Value→H} {w:World} {b:Nat} {e:Nat→Bool} {c:Bool} {a:Nat} {T:TypeId} {cs:List Value} {x:DataW H×List MemPlace} {d:Array Field}
  (l:P.underlying T=some (.struct d)) (h:DataW.trod enc P w b e c a T cs=some x) :
  cs.length=P.cellsOf T∧∃ (n:Nat) (ys:List (DataW H×List MemPlace)),a=n+1∧x.1=.agg (ys.map (·.1))∧ys.length=d.size∧∀ (i:Nat) f,d[i]?=some f→∃ y,ys[i]?=some y∧DataW.trod enc P w b e c n f.type ((cs.drop f.offset).take (P.cellsOf f.type))=some y:=by
 cases a with
 | zero=>simp [DataW.trod] at h
 | succ n =>
  unfold DataW.trod at h
  simp only [l] at h
  split at h
  ·rename_i k
   obtain ⟨ys,g,rfl⟩:=Option.map_eq_some_iff.1 h
   refine ⟨k,n,ys,rfl,rfl,by simpa using Lib.mapM_length g,fun i f j=>?_⟩
   exact B8v g i f (by simpa using j)
  ·cases h
theorem C9u {H:Type} {enc:TypeId×Value→H} {w:World} {b:Nat} {d:Nat→Bool} {c:Bool} {a:Nat} {T e:TypeId} {k:Nat} {cs:List Value} {x:DataW H×List MemPlace}
  (j:P.underlying T=some (.array k e)) (h:DataW.trod enc P w b d c a T cs=some x) :
  cs.length=P.cellsOf T∧∃ (n:Nat) (ys:List (DataW H×List MemPlace)),a=n+1∧x.1=.agg (ys.map (·.1))∧ys.length=k∧∀ (i:Nat),i<k→∃ y,ys[i]?=some y∧DataW.trod enc P w b d c n e ((cs.drop (i * P.cellsOf e)).take (P.cellsOf e))=some y:=by
 cases a with
 | zero=>simp [DataW.trod] at h
 | succ n =>
  unfold DataW.trod at h
  simp only [j] at h
  split at h
  ·rename_i g
   obtain ⟨ys,f,rfl⟩:=Option.map_eq_some_iff.1 h
   refine ⟨g,n,ys,rfl,rfl,by simpa using Lib.mapM_length f,fun i l=>?_⟩
   exact B8v f i i (by simp [l])
  ·cases h
abbrev C0t (w:World):Hp:=fun b=>w.heap[b]?
theorem E4c {w:World} {c:Nat} {a:Addr} {n:Nat} {us:List Value} (h:w.cells? c a n=some us):us.length=n∧∀ j,j<n→w.cell? (a.add j)=us[j]?:=by
 unfold World.cells? at h
 split at h
 ·refine ⟨by simpa using Lib.mapM_length h,fun j d=>?_⟩
  obtain ⟨b,hb,e⟩:=B8v h j j (by simp [d])
  rw [e,hb]
 ·cases h
theorem D4k {w:World} {a:Addr} {v:Value} (h:w.cell? a=some v):a.spot=none∧∃ c T b,w.heap[a.block]?=some (.cells c T b)∧c[a.off]?=some v:=by
 unfold World.cell? at h
 cases hs:a.spot with
 | none =>
  rw [hs] at h
  split at h<;>simp_all
 | some s=>rw [hs] at h;split at h<;>simp_all
theorem D3q (a:Addr) (n:Nat):(a.add n).block=a.block:=by unfold Addr.add;split<;>rfl
theorem E9c (a:Addr) (n:Nat):(a.add n).off=a.off+n:=by unfold Addr.add;split<;>simp_all
theorem E8i (a:Addr) (n m:Nat):(a.add n).add m=a.add (n+m):=by
 unfold Addr.add
 split<;>split<;>split<;>simp_all [Nat.add_assoc]
theorem E3b {T e sz:TypeId} {α:Type} {c:α→List Value} {D:{H:Type}→DataW H→α→Prop} {p:Hp→α→Prop} (hc:Cod P e α c D p) (ac:∀ x,(c x).length=sz) (a6:P.cellsOf e=sz) (h0:0<sz) (ht:P.underlying T=some (.slice e))
  {H:Type} {enc:TypeId×Value→H} {w:World} {b:Nat} {sp:Nat→Bool} {o:Bool} {r:Nat} {cs:List Value} {x:DataW H×List MemPlace} (h:DataW.trod enc P w b sp o r T cs=some x) :
  ∃ (q:Option Addr) (k:Nat) (xs:List α),cs=[.slice q xs.length k]∧xs.length≤k∧k≤9223372036854775807∧(∀ a ∈ xs,p (C0t w) a)∧(sl c q xs).p (C0t w) ∧
   ((q=none∧xs=[]∧k=0)∨∃ (es rest:List (DataW H)),x.1=.slice es rest∧es.length=xs.length∧∀ (i:Nat) (d:DataW H) (a:α),es[i]?=some d→xs[i]?=some a→D d a):=by
 cases r with
 | zero=>simp [DataW.trod] at h
 | succ n =>
  unfold DataW.trod at h
  simp only [ht] at h
  split at h
  all_goals try (simp_all;done)
  ·rename_i g
   simp only [Option.some.injEq,TypeDesc.slice.injEq] at g
   exact ⟨none,0,[],rfl,Nat.le_refl _,Nat.zero_le _,by simp,rfl,.inl ⟨rfl,rfl,rfl⟩⟩
  ·rename_i e' a len cap g
   simp only [Option.some.injEq,TypeDesc.slice.injEq] at g
   subst g
   split at h
   ·rename_i hb
    obtain ⟨b7,ap,au⟩:=hb
    obtain ⟨es,hm,h⟩:=Option.bind_eq_some_iff.1 h
    obtain ⟨rest,_,rfl⟩:=Option.map_eq_some_iff.1 h
    have a5:es.length=len:=by simpa using Lib.mapM_length hm
    have ah:∀ i,i<len→∃ y,es[i]?=some y∧∃ us,w.cells? b (a.add (i * P.cellsOf e)) (P.cellsOf e)=some us∧DataW.trod enc P w b sp o n e us=some y:=fun i hi=>by
     obtain ⟨y,hy,am⟩:=B8v hm i i (by simp [hi])
     obtain ⟨us,hu,z⟩:=Option.bind_eq_some_iff.1 am
     exact ⟨y,hy,us,hu,z⟩
    have ao:∀ m,m≤len→∃ xs:List α,xs.length=m∧(∀ a ∈ xs,p (C0t w) a)∧∀ i,i<m→∃ y v,es[i]?=some y∧xs[i]?=some v∧D y.1 v∧w.cells? b (a.add (i * P.cellsOf e)) (P.cellsOf e)=some (c v):=by
     intro m
     induction m with
     | zero=>exact fun _=>⟨[],rfl,by simp,fun i hi=>by omega⟩
     | succ m ih =>
      intro b3
      obtain ⟨xs,l,t,hx⟩:=ih opx
      obtain ⟨y,hy,us,hu,z⟩:=ah m opx
      obtain ⟨v,rfl,hd,hp⟩:=hc z
      refine ⟨xs++[v],by simp [l],fun a ha=>?_,fun i hi=>?_⟩
      ·rcases List.mem_append.1 ha with ha | ha
       ·exact t a ha
       ·rw [List.mem_singleton.1 ha];exact hp
      ·by_cases him:i<m
       ·obtain ⟨y',v',h1,h2,h3,h4⟩:=hx i him
        exact ⟨y',v',h1,by rw [List.getElem?_append_left opx];exact h2,h3,h4⟩
       ·obtain rfl:i=m:=by omega
        exact ⟨y,v,hy,by rw [List.getElem?_append_right opx,l];simp,hd,hu⟩
    obtain ⟨xs,l,t,hx⟩:=ao len (Nat.le_refl _)
    subst l
    refine ⟨some a,cap,xs,rfl,ap,by simpa [maxLen] using au,t,?_,.inr ⟨es.map (·.1),rest.map (·.1),rfl,by simpa using a5,fun i d v hd hv=>?_⟩⟩
    ·show A8y (C0t w) a (xs.flatMap c)
     cases hxs:xs with
     | nil=>exact .inl rfl
     | cons x0 xr =>
      rw [← hxs]
      have s:0<xs.length:=by rw [hxs];simp
      have f:∀ i j,i<xs.length→j<sz→w.cell? (a.add (i * sz+j))=(xs.flatMap c)[i * sz+j]?:=by
       intro i j hi hj
       obtain ⟨y,v,_,h2,_,h4⟩:=hx i hi
       have:=(E4c h4).2 j (by rw [a6];exact hj)
       rw [a6] at this
       rw [C5i ac v hi hj,show xs.getD i v=v by rw [List.getD_eq_getElem?_getD,h2];rfl,← this,E8i]
      have ab:(xs.flatMap c).length=xs.length * sz:=G3 ac xs
      have aa:=f 0 0 s h0
      obtain ⟨v0,hv0⟩:∃ v0,(xs.flatMap c)[0 * sz+0]?=some v0:=by
       rw [List.getElem?_eq_getElem (show 0 * sz+0<(xs.flatMap c).length by rw [ab,Nat.zero_mul];exact Nat.mul_pos s h0)];exact ⟨_,rfl⟩
      rw [hv0] at aa
      obtain ⟨hs,cc,TT,fr,hh,_⟩:=D4k aa
      have a4:w.heap[a.block]?=some (.cells cc TT fr):=by simpa [D3q] using hh
      refine .inr ⟨by simpa [Addr.add] using hs,cc,TT,fr,a4,fun j v hj=>?_⟩
      have a3:=(List.getElem?_eq_some_iff.1 hj).1
      rw [ab] at a3
      have e1:j / sz * sz+j % sz=j:=by rw [Nat.mul_comm];exact Nat.div_add_mod j sz
      have h1:=f (j / sz) (j % sz) (by rw [Nat.div_lt_iff_lt_mul h0];exact a3) (Nat.mod_lt _ h0)
      rw [e1,hj] at h1
      obtain ⟨_,a7,TT',aq,ar,al⟩:=D4k h1
      have u:w.heap[a.block]?=some (.cells a7 TT' aq):=by simpa [D3q] using ar
      have:a7=cc:=by
       rw [a4] at u;simp at u;exact u.1.symm
      rw [← this];simpa [E9c] using al
    ·obtain ⟨y,v',h1,h2,h3,_⟩:=hx i (List.getElem?_eq_some_iff.1 hv).1
     rw [hv] at h2
     obtain rfl:v=v':=Option.some.inj h2
     rw [List.getElem?_map,h1] at hd
     obtain rfl:y.1=d:=Option.some.inj hd
     exact h3
   ·cases h
def F1j {α:Type} (c:α→List Value) (p:Hp→α→Prop) (h:Hp) (r:Slc):Prop:=∃ xs:List α,r.n=xs.length∧r.n≤r.k∧xs.length≤9223372036854775807∧(sl c r.q xs).p h∧∀ a ∈ xs,p h a
theorem F0c {T e sz:TypeId} {α:Type} {c:α→List Value} {D:{H:Type}→DataW H→α→Prop} {p:Hp→α→Prop} (l:Cod P e α c D p) (a:∀ x,(c x).length=sz) (b:P.cellsOf e=sz) (d:0<sz) (f:P.underlying T=some (.slice e)) :
  Cod P T Slc D9 (fun _ _=>True) (F1j c p):=fun h=>by
 obtain ⟨q,k,xs,rfl,j,m,g,i,_⟩:=E3b l a b d f h
 exact ⟨⟨q,xs.length,k⟩,rfl,trivial,xs,rfl,j,by omega,i,g⟩
theorem E3v {α:Type} {c:α→List Value} {p:Hp→α→Prop} {h:Hp}:∀ (rs:List Slc),(∀ r ∈ rs,F1j c p h r)→∃ xss:List (List α),B4 rs xss∧(D5 c rs xss).p h∧∀ xs ∈ xss,∀ a ∈ xs,p h a
 | [],_=>⟨[],.none,fun i r xs h=>by simp at h,by simp⟩
 | r::rs,hr=>by
  obtain ⟨xs,q,k,l,o,s⟩:=hr r (List.mem_cons_self ..)
  obtain ⟨xss,j,m,t⟩:=E3v rs fun e n=>hr e (List.mem_cons_of_mem _ n)
  refine ⟨xs::xss,.cons ⟨q,k,l⟩ j,fun i e d b g=>?_,fun ys f=>?_⟩
  ·cases i with
   | zero=>simp at b g;subst b g;exact o
   | succ i=>exact m i e d (by simpa using b) (by simpa using g)
  ·rcases List.mem_cons.1 f with rfl | f
   ·exact s
   ·exact t ys f
theorem E4e {T S e sz:TypeId} {α:Type} {c:α→List Value} {D:{H:Type}→DataW H→α→Prop} {p:Hp→α→Prop} (z:Cod P e α c D p) (l:∀ x,(c x).length=sz) (g:P.cellsOf e=sz) (o:0<sz) (y:P.underlying S=some (.slice e)) (j:P.cellsOf S=1) (r:P.underlying T=some (.slice S))
  {H:Type} {enc:TypeId×Value→H} {w:World} {b:Nat} {m:Nat→Bool} {d:Bool} {f:Nat} {cs:List Value} {x:DataW H×List MemPlace} (h:DataW.trod enc P w b m d f T cs=some x) :
  ∃ (q:Option Addr) (k:Nat) (rs:List Slc) (xss:List (List α)),cs=[.slice q xss.length k]∧xss.length≤k∧k≤9223372036854775807∧B4 rs xss∧(sl D9 q rs).p (C0t w)∧(D5 c rs xss).p (C0t w)∧∀ xs ∈ xss,∀ a ∈ xs,p (C0t w) a:=by
 obtain ⟨q,k,rs,rfl,u,n,v,t,_⟩:=E3b (c:=D9) (D:=fun _ _=>True) (p:=F1j c p) (F0c z l g o y) (sz:=1) (fun _=>rfl) j Nat.one_pos r h
 obtain ⟨xss,i,s,g3⟩:=E3v rs v
 exact ⟨q,k,_,_,by rw [i.1],by rw [← i.1];exact u,n,i,t,s,g3⟩
theorem D9r {T e sz k:Nat} {α:Type} {c:α→List Value} {D:{H:Type}→DataW H→α→Prop} {p:Hp→α→Prop} (hc:Cod P e α c D p) (u:∀ x,(c x).length=sz) (a3:P.cellsOf e=sz) (ht:P.underlying T=some (.array k e)) (hT:P.cellsOf T=k * sz)
  (v:DataW Unit→Option α) (s:∀ d a,D d a→v d=some a) {tab:List α} {ds:List (DataW Unit)} (f:ds.mapM v=some tab)
  {enc:TypeId×Value→Unit} {w:World} {q:Nat} {sp:Nat→Bool} {r:Bool} {t:Nat} {cs:List Value} {ps:List MemPlace} (h:DataW.trod enc P w q sp r t T cs=some (.agg ds,ps)):cs=tab.flatMap c:=by
 obtain ⟨hl,n,ys,rfl,hx,a0,hy⟩:=C9u ht h
 have m:ds=ys.map (·.1):=by simpa using hx
 have a4:ds.length=k:=by rw [m];simpa using a0
 have z:tab.length=k:=by rw [← a4];exact Lib.mapM_length f
 have a2:∀ (i:Nat),i<k→∃ a,tab[i]?=some a∧(cs.drop (i * sz)).take sz=c a:=by
  intro i hi
  obtain ⟨y,h1,l⟩:=hy i hi
  rw [a3] at l
  obtain ⟨a,h3,h4,_⟩:=hc l
  obtain ⟨b,h5,h6⟩:=B8v f i y.1 (by rw [m];simp [h1])
  rw [s _ _ h4] at h6
  obtain rfl:a=b:=Option.some.inj h6
  exact ⟨a,h5,h3⟩
 rw [hT,← z] at hl
 apply List.ext_getElem?
 intro j
 by_cases hj:j<tab.length * sz
 ·have g:0<sz:=by
   rcases Nat.eq_zero_or_pos sz with o | o
   ·rw [o,Nat.mul_zero] at hj;omega
   ·exact o
  have hk:j / sz<tab.length:=by rw [Nat.div_lt_iff_lt_mul g];exact hj
  have hm:j % sz<sz:=Nat.mod_lt _ g
  have e1:j / sz * sz+j % sz=j:=by rw [Nat.mul_comm];exact Nat.div_add_mod j sz
  obtain ⟨a,o,h1⟩:=a2 (j / sz) opx
  have l:=C5i u a hk hm
  rw [e1] at l
  rw [l,show tab.getD (j / sz) a=a by simp [List.getD_eq_getElem?_getD,o],← h1,List.getElem?_take,if_pos hm,List.getElem?_drop,e1]
 ·rw [List.getElem?_eq_none opx,List.getElem?_eq_none (by rw [G3 u];omega)]
theorem C5m {i:List (String×DataW Unit)} {w:World} {b:String} {g T:Nat} {ds:List (DataW Unit)} (m:(b,.agg ds) ∈ i) (hg:P.globalNamed b=some g) (hT:(P.globals[g]?).map (·.type)=some T)
  {e sz k:Nat} {α:Type} {c:α→List Value} {D:{H:Type}→DataW H→α→Prop} {p:Hp→α→Prop} (hc:Cod P e α c D p) (a4:∀ x,(c x).length=sz) (a0:P.cellsOf e=sz) (ht:P.underlying T=some (.array k e)) (a3:P.cellsOf T=k * sz)
  (o:DataW Unit→Option α) (z:∀ d a,D d a→o d=some a) {tab:List α} (u:ds.mapM o=some tab) (h:laidMet P i w):(sl c (some ⟨g,0,none⟩) tab).p (C0t w):=by
 obtain ⟨ps,h,_⟩:=h
 have:∀ (l:List (String×DataW Unit)) (ps:List MemPlace),DataW.LaidVars P w l ps→(b,.agg ds) ∈ l→∃ cs f q,w.var? P b=some cs∧DataW.trod (fun _=>()) P w 0 (fun _=>true) false f T cs.toList=some (.agg ds,q):=by
  intro l
  induction l with
  | nil=>intro ps _ m;cases m
  | cons y r ih =>
   intro ps h m
   obtain ⟨n,d⟩:=y
   obtain ⟨g',t,cs,f,p',q,h1,h2,h3,h4,h5,_⟩:=h
   rcases List.mem_cons.1 m with e | m
   ·simp only [Prod.mk.injEq] at e
    obtain ⟨rfl,rfl⟩:=e
    rw [hg] at h1
    obtain rfl:g=g':=Option.some.inj h1
    rw [hT] at h2
    obtain rfl:T=t:=Option.some.inj h2
    exact ⟨cs,f,p',h3,h4⟩
   ·exact ih q h5 m
 obtain ⟨cs,f,q,s,a1⟩:=this i ps h m
 have a2:=D9r hc a4 a0 ht a3 o z u a1
 unfold World.var? at s
 rw [hg] at s
 simp only [Option.bind_some] at s
 split at s
 ·rename_i cs' TT fr hh
  obtain rfl:cs'=cs:=Option.some.inj s
  refine .inr ⟨rfl,_,_,_,hh,fun j v hj=>?_⟩
  rw [← a2] at hj
  simpa using hj
 ·cases s
theorem E4z {f:Func} {s:ChangeSpec} {H:Type} {enc:TypeId×Value→H} (hl:laidOutB P=true) (w:(f.params.toList.all fun t=>P.readableRec t&&decide (t<P.types.size))=true) (m:f.resultTypes=#[4]) (hb:P.underlying 4=some .bool) (hv:s.vars=[])
  {W W':World} {args:Array Value} {ds n:List (DataW H)} {c:List MemPlace} (hW:DataW.Whole enc P f.params.toList s.vars false W args.toList ds n c) (hk:Below W.heap.size W W')
  (z:s.fn H ds={results:=[.lit (.bool true)],args:=ds}):s.post enc P f false true false false W args (.bool true) W':=by
 have j:=hW
 obtain ⟨p,q,hA,hV,rfl,ab,aa⟩:=hW
 rw [hv] at hV
 have y:n=[]∧q=[]:=by
  cases n with
  | nil=>exact ⟨rfl,hV⟩
  | cons g n=>exact hV.elim
 obtain ⟨rfl,rfl⟩:=y
 simp only [List.append_nil] at j
 have u:∀ x ∈ p,x.block<W.heap.size:=fun x o=>j.lt x o
 have a:s.fn H (ds++[])={results:=[.lit (.bool true)],args:=ds}:=by simpa using z
 have k:∀ (l:List TypeId) (e:List Value) (ds:List (DataW H)) (ps:List MemPlace),(l.all fun t=>P.readableRec t&&decide (t<P.types.size))=true→DataW.TrodAll enc P W 0 (fun _=>true) true l e ds ps→(∀ x ∈ ps,x.block<W.heap.size)→DataW.TrodAll enc P W' 0 (fun b=>decide (b<W.heap.size)) true l e ds ps:=by
  intro l
  induction l with
  | nil=>intro e ds ps _ h _;cases e<;>cases ds<;>exact h
  | cons t l ih =>
   intro e ds ps r h o
   cases e with
   | nil=>cases ds<;>exact h.elim
   | cons v e =>
    cases ds with
    | nil=>exact h.elim
    | cons d ds =>
     simp only [List.all_cons,Bool.and_eq_true,decide_eq_true_eq] at r
     obtain ⟨p1,q1,h1,h2,rfl⟩:=h
     exact ⟨p1,q1,Below.trod hl r.1.1 r.1.2 h1 hk (fun x i=>o x (List.mem_append_left _ i)),ih e ds q1 (by simpa using r.2) h2 (fun x i=>o x (List.mem_append_right _ i)),rfl⟩
 refine ⟨_,_,p,[],p,[],j,?_,?_,?_,hk.frame _,fun h=>by cases h⟩
 ·rw [a,m]
  refine ⟨[],_,⟨1,?_⟩,rfl,rfl⟩
  simp [DataW.trod,hb,Value.cells,Value.resultList]
 ·rw [a];exact k _ _ _ _ w hA u
 ·rw [a,hv];rfl
end
def D1l (P:Program) (h:Hp) (b:Value) (args:List Value) (r:Value):Prop :=
 ∃ (k:FuncId) (first cap:Array Value),b=.func (.func k) first cap∧HasBody P k∧∀ (w:World) (a:Hp),h.le a→a.sub w→A3j [] a w →
  Calls P k (first++args.toArray++cap) w fun e w'=>∃ _:Unit,e=.returned r∧cE (cx w a []) [] [] w'
theorem D1l.mono {P:Program} {h b:Hp} {c:Value} {args:List Value} {r:Value} (f:h.le b) (j:D1l P h c args r):D1l P b c args r:=by
 obtain ⟨k,first,cap,e,hb,H⟩:=j
 exact ⟨k,first,cap,e,hb,fun w i a g d=>H w i (Hp.le_trans f a) g d⟩
def N4 (P:Program) (d:Value) (C:List Value→Value→Prop):Pers:=⟨fun h=>∀ args r,C args r→D1l P h d args r,fun c a args r b=>(a args r b).mono c⟩
def C5k (P:Program) (l:List (Int×Value)) (C:Int→List Value→Value→Prop):Pers:=⟨fun h=>∀ k,A1r k l=true→∀ args r,C k args r→D1l P h (lkV k .nilFunc l) args r,fun d a k b args r c=>(a k b args r c).mono d⟩
theorem D9a {α:Type} (b k:Int) (v:α):∀ (l:List (Int×α)),A1r b (l++[(k,v)])=(A1r b l||decide (b=k))
 | []=>by simp [A1r]
 | (a,u)::l=>by simp only [List.cons_append,A1r,D9a b k v l];cases decide (b=a)<;>rfl
theorem E3j (b k:Int) (z v:Value):∀ (l:List (Int×Value)),lkV b z (l++[(k,v)])=if A1r b l=true then lkV b z l else bif decide (b=k) then v else z
 | []=>by simp [A1r,lkV]
 | (a,u)::l=>by
  simp only [List.cons_append,lkV,A1r,E3j b k z v l]
  by_cases e:b=a
  ·simp [e]
  ·simp [e]
theorem C5q {α:Type} (k:Int):∀ (l:List (Int×α)),A1r k l=(l.map Prod.fst).contains k
 | []=>rfl
 | (a,v)::l=>by
  simp only [A1r,List.map_cons,List.contains_cons,C5q k l]
  by_cases h:k=a
  ·subst h;simp
  ·simp [h]
theorem D0g (k:Int) (v:Value):∀ (l:List (Int×Value)) (j:Nat),B9 (l++[(k,v)]) j=B9 l j++[⟨.int .i64 k,v,j+l.length⟩]
 | [],j=>rfl
 | (a,u)::l,j=>by simp only [List.cons_append,B9,D0g k v l,List.length_cons];congr 4;omega
theorem D9e {k:Int}:∀ (l:List (Int×Value)) (j i:Nat),k ∉ l.map Prod.fst→Instr.findNow (.int .i64) (.int .i64 k) (B9 l j) i=some none
 | [],j,i,h=>rfl
 | (a,v)::l,j,i,h=>by
  simp only [List.map_cons,List.mem_cons,not_or] at h
  have hb:(k == a)=false:=by simpa using h.1
  simp only [B9,Instr.findNow,Instr.sameNow,if_true,hb]
  exact D9e l (j+1) (i+1) h.2
section
variable {P:Program} {n:Nat} {X:Cx} {E:bY} {L:Own} {Φ Φ' Φ0:List Pers}
theorem F0m {c:Func} {r s t q:ResultVar} {v u x y:Value} (d:c.results=#[r,s,t,q]) (h:C4h P n X r E L Φ v) (k:C4h P n X s E L Φ u) (l:C4h P n X t E L Φ x) (m:C4h P n X q E L Φ y):Res P n X c E L Φ (.tuple #[v,u,x,y]):=fun a w b=>by
 simp [B4p,d,h a w b,k a w b,l a w b,m a w b]
theorem A0a {c:Value} {C:List Value→Value→Prop} (h:∀ args r,C args r→D4 P c args Φ0 r) (f:A7 Φ Φ0):V3 Φ (N4 P c C):=fun p d args r g=>by
 obtain ⟨k,first,cap,e,a⟩:=h args r g
 refine ⟨k,first,cap,e,a.1,fun w l b j i=>?_⟩
 have:=a.2 w l (fun q m=>q.mono b (f p d q m)) j i
 rw [Array.toArray_toList] at this
 exact this
theorem E1a {a:Value} {C C':List Value→Value→Prop} (h:V3 Φ (N4 P a C)) (d:∀ args r,C' args r→C args r):V3 Φ (N4 P a C'):=fun p b args r c=>h p b args r (d args r c)
theorem C1q {b:Value} {C:List Value→Value→Prop} (c:∀ args r,¬ C args r):V3 Φ (N4 P b C):=fun p d args r a=>absurd a (c args r)
theorem E6h {C:Int→List Value→Value→Prop}:V3 Φ (C5k P [] C):=fun p b k a=>by cases a
theorem E8e {l:List (Int×Value)} {k:Int} {v:Value} {C:Int→List Value→Value→Prop} (g:V3 Φ (C5k P l C)) (f:V3 Φ (N4 P v (C k))):V3 Φ (C5k P (l++[(k,v)]) C):=fun p b a c args r d=>by
 rw [E3j]
 rw [D9a] at c
 by_cases h:A1r a l=true
 ·rw [if_pos h];exact g p b a h args r d
 ·rw [if_neg h]
  have e:a=k:=by simpa [h] using c
  subst e
  rw [decide_eq_true rfl,cond_true]
  exact f p b args r d
theorem F3 {o:Oper} {T t e:Nat} {m g vv:Operand} {b:Nat} {k:Int} {v:Value} {l:List (Int×Value)} {ks:List Int} {C:Int→List Value→Value→Prop} (y:MapTy P T t e (.int .i64)) (ho:o.op=.insert T m g vv∨o.op=.mapUpdate T m g vv) (hm:ev E m=some (.map (some b))) (s:ev E g=some (.int .i64 k)) (hv:ev E vv=some v)
  (i:Nat) (hi:L[i]?=some (b,.map (B9 l 0).toArray l.length)) (c:l.map Prod.fst=ks) (hn:k ∉ ks) (z:V3 Φ (C5k P l C)) (r:V3 Φ (N4 P v (C k))) (hf:A7 Φ Φ') :
  Tri P n X o E L Φ {l':List (Int×Value) // l'.map Prod.fst=ks++[k]} (fun _=>undef) (fun x=>L.set i (b,.map (B9 x.1 0).toArray x.1.length)) (fun x=>C5k P x.1 C::Φ'):=by
 have h:=F6 (P:=P) (n:=n) (X:=X) (Φ:=Φ) (es':=(B9 (l++[(k,v)]) 0).toArray) y ho hm s hv i hi (by rw [List.toList_toArray];exact D9e _ _ 0 (by rw [c];exact hn)) (by rw [D0g];simp)
 intro a w K Q hs f
 refine h a w K Q hs fun u w' hw=>?_
 refine f ⟨l++[(k,v)],by rw [List.map_append,c];rfl⟩ w' ?_
 have h3:=(hw.fact (C5k P (l++[(k,v)]) C) (E8e z r)).foll (Φ':=C5k P (l++[(k,v)]) C::Φ') (fun p j q d=>by
  rcases List.mem_cons.1 d with rfl | d
  ·exact j _ (List.mem_cons_self ..)
  ·exact hf p (fun q d=>j q (List.mem_cons_of_mem _ d)) q d)
 simpa using h3
theorem E4t {o:Oper} {c:Call} {s:Operand} {d:List Value} {k:Int} {l:List (Int×Value)} {C:Int→List Value→Value→Prop} {r:Value}
  (q:V3 Φ (C5k P l C)) (i:A1r k l=true) (h:C k d r) (y:o.op=.call c) (hc:c.callee=.value s) (n:ev E s=some (lkV k .nilFunc l)) (b:c.args.toList.mapM (ev E)=some d):Det P X o E L Φ r:=by
 intro a ha w x
 obtain ⟨p,m⟩:=x
 obtain ⟨v,first,cap,e,hb,_⟩:=q p m.facts k i d r h
 have f:J5 P v ((first++d.toArray++cap).toList) [C5k P l C] r:=by
  refine ⟨hb,fun w' t u z g=>?_⟩
  obtain ⟨k2,f2,c2,j,_,H⟩:=u _ (List.mem_cons_self ..) k i d r h
  rw [e] at j
  cases j
  have:=H w' t (Hp.le_refl _) z g
  rw [Array.toArray_toList]
  exact this
 rw [e] at n
 exact B6r f y hc n b rfl (A7.con1 q A7.nil) a ha w ⟨p,m⟩
end
section
variable {P:Program} {n:Nat} {X:Cx} {K:Go.Act→World→Prop} {Q:Exit→Go.Act→World→Prop} {E:bY} {L L':Go.Fen.Own} {Φ:List Pers}
theorem C0i {ops:Array Oper} {i m:Nat} (c:L.Perm L') (h:JI P n X ops i m K Q E L' Φ):JI P n X ops i m K Q E L Φ:=fun a w b=>h a w ⟨b.size,b.defers,b.has,b.world.perm c⟩
theorem B4m {ops:Array Oper} {i m:Nat} (a:L=L') (h:JI P n X ops i m K Q E L' Φ):JI P n X ops i m K Q E L Φ:=a▸h
theorem F1c {c:Code} (a:L=L') (h:J P n X c Q E L' Φ):J P n X c Q E L Φ:=a▸h
end
def E9j (P:Program) (T:Nat):Option (Nat×Bool) :=
 match P.info? T,P.underlying T with
 | some i,some d=>some (i.size,TypeDesc.row d)
 | _,_=>none
theorem E3i {P:Program} {T sz:Nat} {agg:Bool} (h:E9j P T=some (sz,agg)):Ty P T sz agg:=⟨by
 unfold E9j at h
 unfold TyB
 split at h
 ·rename_i i d b a
  simp only [Option.some.injEq,Prod.mk.injEq] at h
  obtain ⟨rfl,rfl⟩:=h
  simp [b,a]
 ·cases h⟩
def ldV (sz:Nat) (agg:Bool) (cs:List Value) (off:Nat):Option Value :=
 match agg with
 | true=>match Nat.beq ((cs.drop off).take sz).length sz with
  | true=>some (.agg ((cs.drop off).take sz).toArray)
  | false=>none
 | false=>match Nat.beq sz 1 with
  | true=>cs[off]?
  | false=>none
def F5z (v:Value) (sz off:Nat) (cs:List Value):Bool:=Nat.beq v.cells.toList.length sz&&v.cells.toList.all (·.oneCell')&&Nat.ble (off+sz) cs.length
def B5w (P:Program) (E:bY) (L:Own) (a bs:List Nat):Op→Option (Value×Own×List Nat×List Nat×List (Nat×Nat))
 | .load T x=>match ev E x,a with
  | some (.pointer (some ⟨b,off,none⟩)),j::hs'=>match L[j]?,E9j P T with
   | some (b',.cells cs TT (0,0)),some (sz,agg)=>match ldV sz agg cs.toList off with
    | some v=>some (v,L,hs',bs,[(b,b')])
    | none=>none
   | _,_=>none
  | _,_=>none
 | .store T x y=>match ev E x,ev E y,a with
  | some (.pointer (some ⟨b,off,none⟩)),some v,j::hs'=>match L[j]?,E9j P T with
   | some (b',.cells cs TT (0,0)),some (sz,_)=>match F5z v sz off cs.toList with
    | true=>some (undef,L.set j (bx b' (A3s cs.toList v.cells.toList off) TT),hs',bs,[(b,b')])
    | false=>none
   | _,_=>none
  | _,_,_=>none
 | .box T x=>match ev E x,bs with
  | some v,b::bs'=>some (.pointer (some ⟨b,0,none⟩),bx b v.cells.toList T::L,a,bs',[])
  | _,_=>none
 | .alloc T=>match (P.info? T).bind (·.zero),bs with
  | some z,b::bs'=>some (.pointer (some ⟨b,0,none⟩),bx b z.cells.toList T::L,a,bs',[])
  | _,_=>none
 | .build T ps=>match B5r E ps.toList with
  | some vs=>match E1t P T vs with
   | some cs=>some (.agg cs,L,a,bs,[])
   | none=>none
  | none=>none
 | op=>match B5v P E op with
  | some v=>some (v,L,a,bs,[])
  | none=>none
def exN (P:Program) (n:Nat) (ops:Array Oper):Nat→Nat→List Nat→List Nat→bY→Own→List (Nat×Nat)→Option (bY×Own×List Nat×List (Nat×Nat))
 | 0,_,_,bs,E,L,ps=>some (E,L,bs,ps)
 | k+1,i,hs,bs,E,L,ps=>match ops[i]? with
  | none=>none
  | some o=>match B0t ops o E,Y5 n o.dst with
   | some false,true=>exN P n ops k (i+1) hs bs (bY.put E o.dst undef) L ps
   | some true,true=>match B5w P E L hs bs o.op with
    | some (v,L',hs',bs',pr)=>exN P n ops k (i+1) hs' bs' (bY.put E o.dst v) L' (pr++ps)
    | none=>none
   | _,_=>none
section
variable {P:Program} {n:Nat} {X:Cx} {K:Act→World→Prop} {Q:Exit→Act→World→Prop} {E E':bY} {L L':Own} {Φ Φ':List Pers}
def Op.turns:Op→Bool
 | .box _ _=>true
 | .alloc _=>true
 | .store _ _ _=>true
 | _=>false
theorem D5w {ops:Array Oper}:∀ (k i:Nat) {c bs:List Nat} {E R:bY} {L L2:Own} {ps a:List (Nat×Nat)} {b:List Nat},exN P n ops k i c bs E L ps=some (R,L2,b,a)→∀ q ∈ ps,q ∈ a
 | 0,i,c,bs,E,R,L,L2,ps,a,b,h,q,hq=>by
  simp only [exN,Option.some.injEq,Prod.mk.injEq] at h
  rw [← h.2.2.2];exact hq
 | k+1,i,c,bs,E,R,L,L2,ps,a,b,h,q,hq=>by
  unfold exN at h
  split at h
  ·cases h
  ·split at h
   ·exact D5w k (i+1) h q hq
   ·split at h
    ·exact D5w k (i+1) h q (List.mem_append_right _ hq)
    ·cases h
   ·cases h
theorem D4b {o:Oper} {n bs d i:List Nat} {v:Value} {m:List (Nat×Nat)} (c:Op.turns o.op=false) (h:B5w P E L n bs o.op=some (v,L',d,i,m)) (s:∀ q ∈ m,q.1=q.2) :
  i=bs∧L'=L∧(∀ e,B5w P E L n e o.op=some (v,L',d,e,m))∧J9 P X o E L Φ v:=by
 cases ho:o.op with
 | box T x=>rw [ho] at c;cases c
 | alloc T=>rw [ho] at c;cases c
 | store T x y=>rw [ho] at c;cases c
 | load T x =>
  rw [ho] at h
  simp only [B5w] at h
  split at h
  ·rename_i b off j t l
   split at h
   ·rename_i b' cs TT sz agg p r
    split at h
    ·rename_i u a
     simp only [Option.some.injEq,Prod.mk.injEq] at h
     obtain ⟨rfl,rfl,rfl,rfl,rfl⟩:=h
     obtain rfl:b=b':=s (b,b') oom
     refine ⟨rfl,rfl,fun e=>?_,?_⟩
     ·simp only [B5w,l,p,r,a]
     ·have f:=E3i r
      have hL:L[j]?=some (bx b cs.toList TT):=by rw [p]
      unfold ldV at a
      cases agg with
      | true =>
       simp only at a
       split at a
       ·rename_i hb
        obtain rfl:=Option.some.inj a
        exact G7 f ho l j hL rfl (Nat.eq_of_beq_eq_true hb)
       ·cases a
      | false =>
       simp only at a
       split at a
       ·rename_i hb
        obtain rfl:=Nat.eq_of_beq_eq_true hb
        exact C1 f ho l j hL a
       ·cases a
    ·cases h
   ·cases h
  ·cases h
 | build T ps =>
  rw [ho] at h
  simp only [B5w] at h
  split at h
  ·rename_i w k
   split at h
   ·rename_i cs g
    simp only [Option.some.injEq,Prod.mk.injEq] at h
    obtain ⟨rfl,rfl,rfl,rfl,rfl⟩:=h
    refine ⟨rfl,rfl,fun e=>by simp only [B5w,k,g],?_⟩
    have:=A1h (X:=X) (L:=L) (Φ:=Φ) (cs:=cs.toList) ho k (by simpa using g)
    simpa using this
   ·cases h
  ·cases h
 | _ =>
  all_goals
   rw [ho] at h
   simp only [B5w] at h
   split at h
   ·rename_i u a
    simp only [Option.some.injEq,Prod.mk.injEq] at h
    obtain ⟨rfl,rfl,rfl,rfl,rfl⟩:=h
    refine ⟨rfl,rfl,fun e=>by simp only [B5w,a],J9.pure (by rw [ho];exact a)⟩
   ·cases h
theorem E0u {o:Oper} {T:Nat} {x y:Operand} {k bs c d:List Nat} {v:Value} {g:List (Nat×Nat)} (e:o.op=.store T x y) (h:B5w P E L k bs o.op=some (v,L',c,d,g)) (r:∀ q ∈ g,q.1=q.2) :
  d=bs∧(∀ f,B5w P E L k f o.op=some (v,L',c,f,g))∧Tri P n X o E L Φ Unit (fun _=>v) (fun _=>L') (fun _=>Φ):=by
 rw [e] at h
 simp only [B5w] at h
 split at h
 ·rename_i b off u j s l i
  split at h
  ·rename_i b' cs TT sz agg m p
   split at h
   ·rename_i a
    simp only [Option.some.injEq,Prod.mk.injEq] at h
    obtain ⟨rfl,rfl,rfl,rfl,rfl⟩:=h
    obtain rfl:b=b':=r (b,b') oom
    refine ⟨rfl,fun f=>?_,?_⟩
    ·rw [e];simp only [B5w,l,i,m,p,a]
    ·have hL:L[j]?=some (bx b cs.toList TT):=by rw [m]
     unfold F5z at a
     simp only [Bool.and_eq_true] at a
     exact P4 (E3i p) e l i j hL oom (Nat.eq_of_beq_eq_true a.1.1) a.1.2 rfl a.2
   ·cases h
  ·cases h
 ·cases h
theorem B0b {ops:Array Oper} {m:Nat}:∀ (k i:Nat) (d:List Nat) (c:Nat) {E:bY} {L:Own} {ps:List (Nat×Nat)},
  (∀ bs:List Nat,bs.length=c→∃ R L2 g,exN P n ops k i d bs E L ps=some (R,L2,[],g)∧(∀ q ∈ g,q.1=q.2)∧JI P n X ops (i+k) m K Q R L2 Φ)→JI P n X ops i (k+m) K Q E L Φ
 | 0,i,d,c,E,L,ps,H=>by
  obtain ⟨R,L2,g,h,p,l⟩:=H (List.replicate c 0) oom
  simp only [exN,Option.some.injEq,Prod.mk.injEq] at h
  obtain ⟨rfl,rfl,_,_⟩:=h
  rw [Nat.zero_add];exact l
 | k+1,i,d,c,E,L,ps,H=>by
  obtain ⟨R,L2,g,h,p,l⟩:=H (List.replicate c 0) oom
  have h0:=h
  unfold exN at h
  rw [Nat.add_right_comm]
  split at h
  ·cases h
  ·rename_i o ho
   have f:∀ bs,exN P n ops (k+1) i d bs E L ps=match B0t ops o E,Y5 n o.dst with
     | some false,true=>exN P n ops k (i+1) d bs (bY.put E o.dst undef) L ps
     | some true,true=>match B5w P E L d bs o.op with
      | some (v,L',j,a4,pr)=>exN P n ops k (i+1) j a4 (bY.put E o.dst v) L' (pr++ps)
      | none=>none
     | _,_=>none:=fun bs=>by rw [exN];simp only [ho]
   split at h
   ·rename_i hr s
    refine E3n ho hr s (B0b (ps:=ps) k (i+1) d c fun bs hb=>?_)
    obtain ⟨R,L2,g,h,p,l⟩:=H bs hb
    rw [f,hr,s] at h
    exact ⟨R,L2,g,h,p,by rw [Nat.add_assoc,Nat.add_comm 1 k];exact l⟩
   ·rename_i hr s
    split at h
    ·rename_i v L' j a4 pr hx
     have a3:∀ q ∈ pr,q.1=q.2:=fun q a7=>p q (D5w k (i+1) h q (List.mem_append_left _ a7))
     have next:∀ bs b2,B5w P E L d bs o.op=some (v,L',j,b2,pr)→exN P n ops (k+1) i d bs E L ps=exN P n ops k (i+1) j b2 (bY.put E o.dst v) L' (pr++ps):=fun bs b2 hb=>by
      rw [f,hr,s];simp only [hb]
     cases ht:Op.turns o.op with
     | false =>
      obtain ⟨_,rfl,r,a2⟩:=D4b (X:=X) (Φ:=Φ) ht hx a3
      refine D5r ho hr s a2.det (B0b (ps:=pr++ps) k (i+1) j c fun bs hb=>?_)
      obtain ⟨R,L2,g,h,p,l⟩:=H bs hb
      rw [next bs bs (r bs)] at h
      exact ⟨R,L2,g,h,p,by rw [Nat.add_assoc,Nat.add_comm 1 k];exact l⟩
     | true =>
      cases hop:o.op with
      | store T x y =>
       obtain ⟨_,r,a5⟩:=E0u (n:=n) (X:=X) (Φ:=Φ) hop hx a3
       refine C9z ho hr s a5 fun _=>(B0b (ps:=pr++ps) k (i+1) j c fun bs hb=>?_)
       obtain ⟨R,L2,g,h,p,l⟩:=H bs hb
       rw [next bs bs (r bs)] at h
       exact ⟨R,L2,g,h,p,by rw [Nat.add_assoc,Nat.add_comm 1 k];exact l⟩
      | box T x =>
       have a:=hx
       rw [hop] at a
       simp only [B5w] at a
       split at a
       ·rename_i u b0 a8 hu t
        obtain ⟨w,rfl⟩:∃ w,c=w+1:=by
         cases c with
         | zero=>cases t
         | succ c=>exact ⟨c,rfl⟩
        refine C9z ho hr s (A0h (cs:=u.cells.toList) hop hu oom) fun b=>(B0b (ps:=ps) k (i+1) d w fun bs hb=>?_)
        ·obtain ⟨R,L2,g,h,p,l⟩:=H (b::bs) (by simp [hb])
         have e:B5w P E L d (b::bs) o.op=some (.pointer (some ⟨b,0,none⟩),bx b u.cells.toList T::L,d,bs,[]):=by rw [hop];simp only [B5w,hu]
         rw [f,hr,s] at h
         simp only [e] at h
         exact ⟨R,L2,g,h,p,by rw [Nat.add_assoc,Nat.add_comm 1 k];exact l⟩
       ·cases a
      | alloc T =>
       have a:=hx
       rw [hop] at a
       simp only [B5w] at a
       split at a
       ·rename_i z b0 a8 hz t
        obtain ⟨w,rfl⟩:∃ w,c=w+1:=by
         cases c with
         | zero=>cases t
         | succ c=>exact ⟨c,rfl⟩
        refine C9z ho hr s (A5z (cs:=z.cells.toList) ⟨by rw [hz];simp⟩ hop) fun b=>(B0b (ps:=ps) k (i+1) d w fun bs hb=>?_)
        ·obtain ⟨R,L2,g,h,p,l⟩:=H (b::bs) (by simp [hb])
         have e:B5w P E L d (b::bs) o.op=some (.pointer (some ⟨b,0,none⟩),bx b z.cells.toList T::L,d,bs,[]):=by rw [hop];simp only [B5w,hz]
         rw [f,hr,s] at h
         simp only [e] at h
         exact ⟨R,L2,g,h,p,by rw [Nat.add_assoc,Nat.add_comm 1 k];exact l⟩
       ·cases a
      | _=>all_goals (rw [hop] at ht;cases ht)
    ·cases h
   ·cases h
theorem D6t {ops:Array Oper} {a:bY} {t:Nat} {v:Value} (E0:bY) (f:E0.lookup t=some v) (l:a.lookup t=none):∀ (k i:Nat) {j bs:List Nat} {E R:bY} {L L2:Own} {ps c:List (Nat×Nat)} {g:List Nat},
  D1d ops E0 a k i=true→exN P n ops k i j bs E L ps=some (R,L2,g,c)→E.lookup t=some v→R.lookup t=some v
 | 0,i,j,bs,E,R,L,L2,ps,c,g,_,h,he=>by
  simp only [exN,Option.some.injEq,Prod.mk.injEq] at h
  rw [← h.1];exact he
 | k+1,i,j,bs,E,R,L,L2,ps,c,g,hk,h,he=>by
  unfold exN at h
  unfold D1d at hk
  simp only [Bool.and_eq_true] at hk
  split at h
  ·cases h
  ·rename_i o m
   have b:o.dst≠some t:=by
    intro b
    have:=hk.1
    simp only [m,Option.bind_some,b,B8a,l,f] at this
    simp at this
   have put:∀ u,(bY.put E o.dst u).lookup t=some v:=by
    intro u
    cases hdst:o.dst with
    | none=>exact he
    | some d =>
     have:(t == d)=false:=by simp;intro e;exact b (by rw [hdst,e])
     simp only [bY.put,List.lookup,this];exact he
   split at h
   ·exact D6t E0 f l k (i+1) hk.2 h (put _)
   ·split at h
    ·exact D6t E0 f l k (i+1) hk.2 h (put _)
    ·cases h
   ·cases h
def exL (P:Program) (n:Nat) (ops:Array Oper) (k i:Nat) (b bs:List Nat) (E:bY) (L:Own) (a:bY):Option (bY×Own×List Nat) :=
 match D1d ops E a k i with
 | true=>match exN P n ops k i b bs E L [] with
  | some (R,L2,[],ps)=>match C0v R a with
   | some r=>some (r,L2,ps.map Prod.fst)
   | none=>none
  | _=>none
 | false=>none
def exS (P:Program) (n:Nat) (ops:Array Oper) (k i:Nat) (a bs:List Nat) (E:bY) (L:Own):List Nat :=
 match exN P n ops k i a bs E L [] with
 | some (_,_,_,ps)=>ps.map Prod.snd
 | none=>[]
theorem D7z:∀ (ps:List (Nat×Nat)),ps.map Prod.fst=ps.map Prod.snd→∀ q ∈ ps,q.1=q.2
 | [],_,q,hq=>by cases hq
 | p::ps,h,q,hq=>by
  simp only [List.map_cons,List.cons.injEq] at h
  rcases List.mem_cons.1 hq with rfl | hq
  ·exact h.1
  ·exact D7z ps h.2 q hq
theorem B9m {ops:Array Oper} {k i:Nat} {c bs:List Nat} {b:bY} (h:exL P n ops k i c bs E L b=some (b,L',exS P n ops k i c bs E L)) :
  ∃ R g,exN P n ops k i c bs E L []=some (R,L',[],g)∧(∀ q ∈ g,q.1=q.2)∧∀ a,Has a R→Has a (b++E):=by
 unfold exL at h
 split at h
 ·rename_i f
  split at h
  ·rename_i R L2 ps hR
   split at h
   ·rename_i r hr
    simp only [Option.some.injEq,Prod.mk.injEq] at h
    obtain ⟨rfl,rfl,j⟩:=h
    have m:exS P n ops k i c bs E L=ps.map Prod.snd:=by unfold exS;rw [hR]
    rw [m] at j
    refine ⟨R,_,hR,D7z _ j,fun a l t v e=>?_⟩
    rw [B6c] at e
    split at e
    ·rename_i u d
     exact (l.weaken (N7 (C0l hr))) t v (by rw [d];exact e)
    ·rename_i d
     exact l t v (D6t E e d k i f hR e)
   ·cases h
  ·cases h
 ·cases h
theorem D4y {ops:Array Oper} {i m:Nat} (hE:∀ a,Has a E→Has a E') (h:JI P n X ops i m K Q E' L Φ):JI P n X ops i m K Q E L Φ:=fun a w b=>h a w ⟨b.size,b.defers,hE a b.has,b.world⟩
theorem zrg {ops:Array Oper} {i:Nat} (k m:Nat) (b:List Nat) (a:bY) (L':Own) (g:JI P n X ops (i+k) m K Q (a++E) L' Φ) (h:exL P n ops k i b [] E L a=some (a,L',exS P n ops k i b [] E L):=by kernel_rfl):JI P n X ops i (k+m) K Q E L Φ :=
 B0b k i b 0 fun bs hb=>by
  obtain rfl:=List.length_eq_zero_iff.1 hb
  obtain ⟨R,c,e,d,f⟩:=B9m h
  exact ⟨R,L',c,e,d,D4y f g⟩
theorem B0j {ops:Array Oper} {i:Nat} (k m:Nat) (c:List Nat) (a:Nat→bY) (L':Nat→Own) (g:∀ b,JI P n X ops (i+k) m K Q (a b++E) (L' b) Φ) (h:∀ b,exL P n ops k i c [b] E L (a b)=some (a b,L' b,exS P n ops k i c [b] E L):=by intros;kernel_rfl):JI P n X ops i (k+m) K Q E L Φ :=
 B0b k i c 1 fun bs hb=>by
  match bs,hb with
  | [b],_ =>
   obtain ⟨R,d,f,e,j⟩:=B9m (h b)
   exact ⟨R,L' b,d,f,e,D4y j (g b)⟩
theorem E4i {ops:Array Oper} {i:Nat} (k m:Nat) (d:List Nat) (a:Nat→Nat→bY) (L':Nat→Nat→Own) (g:∀ b c,JI P n X ops (i+k) m K Q (a b c++E) (L' b c) Φ) (h:∀ b c,exL P n ops k i d [b,c] E L (a b c)=some (a b c,L' b c,exS P n ops k i d [b,c] E L):=by intros;kernel_rfl):JI P n X ops i (k+m) K Q E L Φ :=
 B0b k i d 2 fun bs hb=>by
  match bs,hb with
  | [b,c],_ =>
   obtain ⟨R,e,j,f,l⟩:=B9m (h b c)
   exact ⟨R,L' b c,e,j,f,D4y l (g b c)⟩
theorem D5f {ops:Array Oper} {i:Nat} (k m:Nat) (e:List Nat) (a:Nat→Nat→Nat→bY) (L':Nat→Nat→Nat→Own) (g:∀ b c d,JI P n X ops (i+k) m K Q (a b c d++E) (L' b c d) Φ) (h:∀ b c d,exL P n ops k i e [b,c,d] E L (a b c d)=some (a b c d,L' b c d,exS P n ops k i e [b,c,d] E L):=by intros;kernel_rfl):JI P n X ops i (k+m) K Q E L Φ :=
 B0b k i e 3 fun bs hb=>by
  match bs,hb with
  | [b,c,d],_ =>
   obtain ⟨R,f,o,j,l⟩:=B9m (h b c d)
   exact ⟨R,L' b c d,f,o,j,D4y l (g b c d)⟩
theorem ip' {ops:Array Oper} {i:Nat} (k m:Nat) (new:bY) (g:JI P n X ops (i+k) m K Q (new++E) L Φ) (h:A4z P n ops k i E new=some new:=by kernel_rfl):JI P n X ops i (k+m) K Q E L Φ:=ip k m new h g
theorem dp' {ops:Array Oper} {i:Nat} (k m:Nat) (new:bY) (g:JD P n X ops (i+k) m K (new++E) L Φ) (h:A4z P n ops k i E new=some new:=by kernel_rfl):JD P n X ops i (k+m) K E L Φ:=dp k m new h g
def C6a (ops:Array Oper):Nat→Nat→Bool
 | 0,_=>true
 | k+1,i=>(match ops[i]? with
  | some o=>!Op.turns o.op
  | none=>false)&&C6a ops k (i+1)
theorem C5o {ops:Array Oper} {m:Nat}:∀ (k i:Nat) (d:List Nat) {E R:bY} {L2:Own} {ps c:List (Nat×Nat)},C6a ops k i=true→exN P n ops k i d [] E L ps=some (R,L2,[],c)→(∀ q ∈ c,q.1=q.2) →
  JD P n X ops (i+k) m K R L Φ→JD P n X ops i (k+m) K E L Φ
 | 0,i,d,E,R,L2,ps,c,_,h,hq,hk=>by
  simp only [exN,Option.some.injEq,Prod.mk.injEq] at h
  obtain ⟨rfl,_,_,_⟩:=h
  rw [Nat.zero_add];exact hk
 | k+1,i,d,E,R,L2,ps,c,hqt,h,hq,hk=>by
  unfold exN at h
  unfold C6a at hqt
  simp only [Bool.and_eq_true] at hqt
  rw [Nat.add_right_comm]
  have a:JD P n X ops (i+1+k) m K R L Φ:=by rw [Nat.add_assoc,Nat.add_comm 1 k];exact hk
  split at h
  ·cases h
  ·rename_i o g
   have p:Op.turns o.op=false:=by have:=hqt.1;rw [g] at this;simpa using this
   split at h
   ·rename_i hr e
    exact E2h g hr e (C5o k (i+1) d hqt.2 h hq a)
   ·rename_i hr e
    split at h
    ·rename_i v L' j s t r
     have l:∀ q ∈ t,q.1=q.2:=fun q f=>hq q (D5w k (i+1) h q (List.mem_append_left _ f))
     obtain ⟨hb,hL,_,b⟩:=D4b (X:=X) (Φ:=Φ) p r l
     rw [hb,hL] at h
     exact D5a g hr e b.det (C5o k (i+1) j hqt.2 h hq a)
    ·cases h
   ·cases h
theorem F2p {ops:Array Oper} {i m:Nat} (hE:∀ a,Has a E→Has a E') (h:JD P n X ops i m K E' L Φ):JD P n X ops i m K E L Φ:=fun a c b d=>h a c b (hE a d)
theorem zdg {ops:Array Oper} {i:Nat} (k m:Nat) (b:List Nat) (a:bY) (g:JD P n X ops (i+k) m K (a++E) L Φ) (h:exL P n ops k i b [] E L a=some (a,L,exS P n ops k i b [] E L):=by kernel_rfl) (c:C6a ops k i=true:=by kernel_rfl):JD P n X ops i (k+m) K E L Φ:=by
 obtain ⟨R,j,e,d,f⟩:=B9m h
 exact C5o k i b c e d (F2p f g)
theorem znl {ops:Array Oper} {i m:Nat} (L':Own) (g:JI P n X ops i m K Q E L' Φ) (h:L=L':=by first|rfl|simp only [List.cons_append,List.append_assoc,List.nil_append,List.append_nil]):JI P n X ops i m K Q E L Φ:=h▸g
theorem zjd {ρ:Type} {c:Operand} {x y:Code} {p:Prop} [Decidable p] {A B R:ρ} (d:ev E c=some (.bool (decide p))) (hR:(bif decide p then A else B)=R) (b:A=R→decide p=true→p→J P n X x Q E L Φ) (a:B=R→decide p=false→¬ p→J P n X y Q E L Φ):J P n X (.cond c x y) Q E L Φ :=
 G4 d (fun e=>b (bt hR e) e (of_decide_eq_true e)) (fun e=>a (bf hR e) e (of_decide_eq_false e))
theorem zjn {ρ:Type} {c:Operand} {x y:Code} {p:Prop} [Decidable p] {A B R:ρ} (d:ev E c=some (.bool (!decide p))) (hR:(bif (!decide p) then A else B)=R) (b:A=R→(!decide p)=true→¬ p→J P n X x Q E L Φ) (a:B=R→(!decide p)=false→¬ ¬ p→J P n X y Q E L Φ):J P n X (.cond c x y) Q E L Φ :=
 G4 d (fun e=>b (bt hR e) e (by simpa using e)) (fun e=>a (bf hR e) e (not_not_intro (by simpa using e)))
theorem zjb {ρ:Type} {c:Operand} {x y:Code} {b:Bool} {A B R:ρ} (f:ev E c=some (.bool b)) (hR:(bif b then A else B)=R) (d:A=R→b=true→J P n X x Q E L Φ) (a:B=R→b=false→J P n X y Q E L Φ):J P n X (.cond c x y) Q E L Φ :=
 G4 f (fun e=>d (bt hR e) e) (fun e=>a (bf hR e) e)
theorem F1h (hD:X.D=[]):(X.D.map Prod.fst).Nodup∧∀ d ∈ X.D,d.2=.deferred (some []):=by rw [hD];exact ⟨List.nodup_nil,fun d a=>by cases a⟩
theorem cD {a:Func} {α:Type} {val:α→Value} {L1:α→Own} {Φ1:α→List Pers} {v:Value} (c:X.rho=none) (hD:X.D=[]) (hr:Res P n X a E L Φ v) (x:α) (hL:List.Sublist (L1 x) L) (hΦ:A7 Φ (Φ1 x)) (b:val x=v:=by rfl):JQ n X (D6g P X a α val L1 Φ1 .ret) E L Φ :=
 B4c rfl ⟨c,hD⟩ (F1h hD) hr x b hL hΦ
theorem zen {a:Func} {α:Type} {val:α→Value} {L1:α→Own} {Φ1:α→List Pers} {v:Value} (c:X.rho=none) (hD:X.D=[]) (hr:Res P n X a E L Φ v) (x:α) (hL:List.Sublist (L1 x) L) (hΦ:A7 Φ (Φ1 x)) (b:val x=v:=by rfl):JQ n X (D6g P X a α val L1 Φ1 .normal) E L Φ :=
 D9z rfl ⟨c,hD⟩ (F1h hD) hr x b hL hΦ
theorem F7 {a:Func} {t:Nat} {val:Unit→Value} {v:Value} (d:X.rho=none) (hD:X.D=[]) (b:a.results=#[.tmp t]:=by rfl) (h:E.lookup t=some v:=by rfl) (c:val ()=v:=by rfl):JQ n X (D6g P X a Unit val (fun _=>[]) (fun _=>[]) .ret) E L Φ :=
 cD d hD (K7 b (A6 h)) () (List.nil_sublist _) A7.nil c
theorem B4w {a:Func} {t s:Nat} {val:Unit→Value} {v u:Value} (d:X.rho=none) (hD:X.D=[]) (b:a.results=#[.tmp t,.tmp s]:=by rfl) (h:E.lookup t=some v:=by rfl) (k:E.lookup s=some u:=by rfl) (c:val ()=.tuple #[v,u]:=by rfl):JQ n X (D6g P X a Unit val (fun _=>[]) (fun _=>[]) .ret) E L Φ :=
 cD d hD (U0 b (A6 h) (A6 k)) () (List.nil_sublist _) A7.nil c
theorem zai {R:bY} (c t p:Nat) {v:Value} {g b:Bool} (j:g=b) (hR:R.drop c=E:=by rfl) (f:C7e E t p (R.take c)=true:=by rfl) (h:E.lookup t=some (.bool g):=by rfl) (d:R.lookup t=some (.bool b):=by rfl) (e:R.lookup p=some v:=by rfl) {ops:Array Oper} {i:Nat} {Q':Exit→Act→World→Prop}:JI P n X ops i 0 (fun a w=>St n X ((p,v)::E) L Φ a w) Q' R L Φ :=
 A2 (J0 c t p j A7.refl (List.Sublist.refl _) hR f h d e)
theorem zad {R:bY} (c t p:Nat) {v:Value} {g b:Bool} (j:g=b) (hR:R.drop c=E:=by rfl) (f:C7e E t p (R.take c)=true:=by rfl) (h:E.lookup t=some (.bool g):=by rfl) (d:R.lookup t=some (.bool b):=by rfl) (e:R.lookup p=some v:=by rfl) {ops:Array Oper} {i:Nat}:JD P n X ops i 0 (fun a _=>a.tmps.size=n∧a.defers=X.marks∧Has a ((p,v)::E)) R L Φ :=
 D6h (F6c c t p j hR f h d e)
theorem zca {ops:Array Oper} {i m:Nat} {o:Oper} {c:Call} {fv:Operand} {k:FuncId} {first cap:Array Value} {vs args:List Value} {Φ0:List Pers} {v:Value} (b:J5 P k args Φ0 v) (hΦ:A7 Φ Φ0)
  (h:JI P n X ops (i+1) m K Q (bY.put E o.dst v) L Φ) (d:C4j n ops i E=some o:=by rfl) (f:o.op=.call c:=by rfl) (j:c.callee=.value fv:=by rfl) (e:ev E fv=some (.func (.func k) first cap):=by rfl) (a:c.args.toList.mapM (ev E)=some vs:=by rfl) (g:(first++vs.toArray++cap).toList=args:=by rfl):JI P n X ops i (m+1) K Q E L Φ :=
 ixc d (B6r b f j e a g hΦ) h
theorem c9 {ops:Array Oper} {i:Nat} (k m:Nat) (b:List Nat) (a:bY) (g:JI P n X ops (i+k) m K Q (a++E) L Φ) (h:exL P n ops k i b [] E L a=some (a,L,exS P n ops k i b [] E L):=by kernel_rfl):JI P n X ops i (k+m) K Q E L Φ:=zrg k m b a L g h
theorem zcm {ops:Array Oper} {i m:Nat} {o:Oper} {c:Call} {fv:Operand} {k:FuncId} {first cap:Array Value} {vs args:List Value} {Φ0:List Pers} {α:Type} {val:α→Value} {Φ1:α→List Pers}
  (b:Con P k args [] Φ0 α val (fun _=>[]) Φ1) (hΦ:A7 Φ Φ0) (h:∀ x,JI P n X ops (i+1) m K Q (bY.put E o.dst (val x)) L (Φ1 x++Φ)) (d:C4j n ops i E=some o:=by rfl) (f:o.op=.call c:=by rfl) (j:c.callee=.value fv:=by rfl)
  (e:ev E fv=some (.func (.func k) first cap):=by rfl) (a:c.args.toList.mapM (ev E)=some vs:=by rfl) (g:(first++vs.toArray++cap).toList=args:=by rfl):JI P n X ops i (m+1) K Q E L Φ :=
 it d (H1 (L2:=L) b f j e a g hΦ (List.Perm.refl _) (fun _=>L) (fun _=>rfl)) h
theorem zia {ops:Array Oper} {i:Nat} (k m t p:Nat) {g:Bool} (x:Bool) (c:g=true→JI P n X ops i k (fun a w=>St n X ((p,.bool x)::E) L Φ a w) Q ((t,.bool true)::E) L Φ) (h:JI P n X ops (i+k) m K Q ((p,.bool (g&&x))::E) L Φ)
  (d:E.lookup t=some (.bool g):=by rfl) (b:A4z P n ops k i ((t,.bool false)::E) [(p,.bool false)]=some [(p,.bool false)]:=by kernel_rfl):JI P n X ops i (k+m) K Q E L Φ:=F5b k m t p x d b c h
theorem zio {ops:Array Oper} {i:Nat} (k m t p:Nat) {g:Bool} (x:Bool) (c:g=false→JI P n X ops i k (fun a w=>St n X ((p,.bool x)::E) L Φ a w) Q ((t,.bool false)::E) L Φ) (h:JI P n X ops (i+k) m K Q ((p,.bool (g||x))::E) L Φ)
  (d:E.lookup t=some (.bool g):=by rfl) (b:A4z P n ops k i ((t,.bool true)::E) [(p,.bool true)]=some [(p,.bool true)]:=by kernel_rfl):JI P n X ops i (k+m) K Q E L Φ:=ior k m t p x d b c h
theorem zda {ops:Array Oper} {i:Nat} (k m t p:Nat) {g:Bool} (x:Bool) (c:g=true→JD P n X ops i k (fun a _=>a.tmps.size=n∧a.defers=X.marks∧Has a ((p,.bool x)::E)) ((t,.bool true)::E) L Φ) (h:JD P n X ops (i+k) m K ((p,.bool (g&&x))::E) L Φ)
  (d:E.lookup t=some (.bool g):=by rfl) (b:A4z P n ops k i ((t,.bool false)::E) [(p,.bool false)]=some [(p,.bool false)]:=by kernel_rfl):JD P n X ops i (k+m) K E L Φ:=F5k k m t p x d b c h
theorem zdO {ops:Array Oper} {i:Nat} (k m t p:Nat) {g:Bool} (x:Bool) (c:g=false→JD P n X ops i k (fun a _=>a.tmps.size=n∧a.defers=X.marks∧Has a ((p,.bool x)::E)) ((t,.bool false)::E) L Φ) (h:JD P n X ops (i+k) m K ((p,.bool (g||x))::E) L Φ)
  (d:E.lookup t=some (.bool g):=by rfl) (b:A4z P n ops k i ((t,.bool true)::E) [(p,.bool true)]=some [(p,.bool true)]:=by kernel_rfl):JD P n X ops i (k+m) K E L Φ:=dor k m t p x d b c h
def cA (m k:Nat):Array Bool:=((List.range m).map k.testBit).toArray
theorem zhk {ops:Array Oper} {c:Nat} {a:Array Bool} {b:A0j} {Φs:List Pers} (i:Nat) {o:Oper} {v:Value} (listed':Array Bool) (f:ops[i]?=some o) (j:J9 P X o E (b.of ops i) Φs v) (h:JH P n X ops c listed' K b Φs (bY.put E o.dst v) L Φ)
  (k:B0t ops o E=some true:=by rfl) (d:Y5 n o.dst=true:=by rfl) (e:B1p ops b a i=true:=by kernel_rfl) (g:a.setIfInBounds i true=listed':=by kernel_rfl):JH P n X ops (c+1) a K b Φs E L Φ :=
 F0p i _ listed' f k d e rfl g j h
theorem zhl {ops:Array Oper} {c:Nat} {a:Array Bool} {b:A0j} {Φs:List Pers} (i:Nat) {o:Oper} {v:Value} (Ls:Own) (listed':Array Bool) (g:ops[i]?=some o) (k:J9 P X o E Ls Φs v) (h:JH P n X ops c listed' K b Φs (bY.put E o.dst v) L Φ)
  (l:B0t ops o E=some true:=by rfl) (e:Y5 n o.dst=true:=by rfl) (f:B1p ops b a i=true:=by kernel_rfl) (d:b.of ops i=Ls:=by kernel_rfl) (j:a.setIfInBounds i true=listed':=by kernel_rfl):JH P n X ops (c+1) a K b Φs E L Φ :=
 F0p i Ls listed' g l e f d j k h
theorem zho {ops:Array Oper} {c:Nat} {a:Array Bool} {b:A0j} {Φs:List Pers} (i:Nat) {o:Oper} {α:Type} {val:α→Value} {L':α→Own} {Φ':α→List Pers} (Lh:Own) (listed':Array Bool) (f:ops[i]?=some o) (k:Tri P n X o E L Φ α val L' Φ') (d:∀ x,Lh.Sublist (L' x)) (hΦ':∀ x,A7 (Φ' x) Φs)
  (h:∀ x,JH P n X ops c listed' K b Φs (bY.put E o.dst (val x)) (L' x) (Φ' x)) (l:B0t ops o E=some true:=by rfl) (e:Y5 n o.dst=true:=by rfl) (hr:Region.ready .any ops a=[i]:=by kernel_rfl) (g:a.setIfInBounds i true=listed':=by kernel_rfl) (j:b.at listed'=Lh:=by kernel_rfl) :
  JH P n X ops (c+1) a K b Φs E L Φ:=hone i Lh listed' f l e hr g j k d hΦ' h
theorem zhp {ops:Array Oper} {d:A0j} {Φs:List Pers} (is:List Nat) (c:Nat) {b:Array Bool} (a:Array Bool) (e:bY) (g:JH P n X ops c a K d Φs (e++E) L Φ) (h:C1j P n ops d is b E e=some (a,e):=by kernel_rfl):JH P n X ops (is.length+c) b K d Φs E L Φ:=F5g is c a e h g
theorem zja {ρ:Type} {c:Operand} {x y:Code} {p q:Prop} [Decidable p] [Decidable q] {A B R:ρ} (d:ev E c=some (.bool (decide p&&decide q))) (hR:(bif (decide p&&decide q) then A else B)=R) (b:A=R→(decide p&&decide q)=true→p∧q→J P n X x Q E L Φ) (a:B=R→(decide p&&decide q)=false→¬ (p∧q)→J P n X y Q E L Φ):J P n X (.cond c x y) Q E L Φ :=
 G4 d (fun e=>b (bt hR e) e (by simpa using e)) (fun e=>a (bf hR e) e (by simpa using e))
theorem zjo {ρ:Type} {c:Operand} {x y:Code} {p q:Prop} [Decidable p] [Decidable q] {A B R:ρ} (d:ev E c=some (.bool (decide p||decide q))) (hR:(bif (decide p||decide q) then A else B)=R) (b:A=R→(decide p||decide q)=true→p∨q→J P n X x Q E L Φ) (a:B=R→(decide p||decide q)=false→¬ (p∨q)→J P n X y Q E L Φ):J P n X (.cond c x y) Q E L Φ :=
 G4 d (fun e=>b (bt hR e) e (by simpa using e)) (fun e=>a (bf hR e) e (by simpa using e))
theorem zid {ops:Array Oper} {i:Nat} (k m t p:Nat) {g:Prop} [Decidable g] (x:Bool) (c:decide g=true→g→JI P n X ops i k (fun a w=>St n X ((p,.bool x)::E) L Φ a w) Q ((t,.bool true)::E) L Φ) (h:JI P n X ops (i+k) m K Q ((p,.bool (decide g&&x))::E) L Φ)
  (d:E.lookup t=some (.bool (decide g)):=by rfl) (b:A4z P n ops k i ((t,.bool false)::E) [(p,.bool false)]=some [(p,.bool false)]:=by kernel_rfl):JI P n X ops i (k+m) K Q E L Φ:=F5b k m t p x d b (fun e=>c e (of_decide_eq_true e)) h
theorem zir {ops:Array Oper} {i:Nat} (k m t p:Nat) {g:Prop} [Decidable g] (x:Bool) (c:decide g=false→¬ g→JI P n X ops i k (fun a w=>St n X ((p,.bool x)::E) L Φ a w) Q ((t,.bool false)::E) L Φ) (h:JI P n X ops (i+k) m K Q ((p,.bool (decide g||x))::E) L Φ)
  (d:E.lookup t=some (.bool (decide g)):=by rfl) (b:A4z P n ops k i ((t,.bool true)::E) [(p,.bool true)]=some [(p,.bool true)]:=by kernel_rfl):JI P n X ops i (k+m) K Q E L Φ:=ior k m t p x d b (fun e=>c e (of_decide_eq_false e)) h
theorem zdd {ops:Array Oper} {i:Nat} (k m t p:Nat) {g:Prop} [Decidable g] (x:Bool) (c:decide g=true→g→JD P n X ops i k (fun a _=>a.tmps.size=n∧a.defers=X.marks∧Has a ((p,.bool x)::E)) ((t,.bool true)::E) L Φ) (h:JD P n X ops (i+k) m K ((p,.bool (decide g&&x))::E) L Φ)
  (d:E.lookup t=some (.bool (decide g)):=by rfl) (b:A4z P n ops k i ((t,.bool false)::E) [(p,.bool false)]=some [(p,.bool false)]:=by kernel_rfl):JD P n X ops i (k+m) K E L Φ:=F5k k m t p x d b (fun e=>c e (of_decide_eq_true e)) h
theorem zdr {ops:Array Oper} {i:Nat} (k m t p:Nat) {g:Prop} [Decidable g] (x:Bool) (c:decide g=false→¬ g→JD P n X ops i k (fun a _=>a.tmps.size=n∧a.defers=X.marks∧Has a ((p,.bool x)::E)) ((t,.bool false)::E) L Φ) (h:JD P n X ops (i+k) m K ((p,.bool (decide g||x))::E) L Φ)
  (d:E.lookup t=some (.bool (decide g)):=by rfl) (b:A4z P n ops k i ((t,.bool true)::E) [(p,.bool true)]=some [(p,.bool true)]:=by kernel_rfl):JD P n X ops i (k+m) K E L Φ:=dor k m t p x d b (fun e=>c e (of_decide_eq_false e)) h
theorem zco {f:FuncId} {a:Func} {c:Code} {args:List Value} {L0:Own} {Φ0:List Pers} {α:Type} {val:α→Value} {L1:α→Own} {Φ1:α→List Pers} (e:P.funcs[f]?=some a) (E0:bY)
  (h:∀ X:Cx,X.M=L0.map Prod.fst→X.rho=none→X.D=[]→J P n X c (D6g P X a α val L1 Φ1) E0 L0 Φ0) (hb:a.body=some c:=by rfl) (g:a.ntmps=n:=by rfl) (hE:O1 ((List.range args.length).zip args) E0:=by repeat' first|exact trivial|refine ⟨rfl,?_⟩)
  (b : (a.name == "runtime.NumGoroutine") = false := by kernel_rfl) (d : Nat.ble args.length n = true := by rfl) : Con P f args L0 Φ0 α val L1 Φ1 := D7s e hb b g d E0 hE h
abbrev zq {k:Nat} (q:Option Addr) (c:Nat) (a:k≤c:=by first|omega|(simp only [List.length_take,List.length_drop,List.length_append,List.length_cons,List.length_nil,List.length_set,List.length_map];omega)|(simp<;>omega)|decide) (b:k≤9223372036854775807:=by first|omega|(simp only [List.length_take,List.length_drop,List.length_append,List.length_cons,List.length_nil,List.length_set,List.length_map];omega)|(simp<;>omega)|decide):{t:Option Addr×Nat // k≤t.2∧k≤9223372036854775807}:=⟨(q,c),a,b⟩
end
section
variable {P:Program} {n:Nat} {X:Cx} {K:Act→World→Prop} {Q:Exit→Act→World→Prop} {E E':bY} {L L':Own} {Φ Φ':List Pers}
theorem A3q {c:Code} {β1:Type} (F:β1→Prop×bY×Own×List Pers×Nat) (b:β1) (e:(F b).1) (hL:List.Sublist (F b).2.2.1 L) (hΦ:A7 Φ (F b).2.2.2.1) (h:∀ b,(F b).1→J P n X c (Exit.then (fun a w=>∃ d,(F d).1∧(F d).2.2.2.2<(F b).2.2.2.2∧St n X (F d).2.1 (F d).2.2.1 (F d).2.2.2.1 a w) Q) (F b).2.1 (F b).2.2.1 (F b).2.2.2.1) (hE:O1 E (F b).2.1:=by repeat' first|exact trivial|refine ⟨rfl,?_⟩|refine ⟨by first|rfl|(simp only [List.length_set,List.length_append,List.length_cons,List.length_nil];rfl)|(simp;done)|(simp;omega),?_⟩):J P n X (.loop c) Q E L Φ :=
 JL1 (fun b=>(F b).1) (fun b=>(F b).2.1) (fun b=>(F b).2.2.1) (fun b=>(F b).2.2.2.1) (fun b=>(F b).2.2.2.2) b e hE hL hΦ h
theorem A2g {β1:Type} {F:β1→Prop×bY×Own×List Pers×Nat} {z1:β1} (b:β1) (e:(F b).1) (hμ:(F b).2.2.2.2<(F z1).2.2.2.2) (hL:List.Sublist (F b).2.2.1 L) (hΦ:A7 Φ (F b).2.2.2.1) (hE:O1 E (F b).2.1:=by repeat' first|exact trivial|refine ⟨rfl,?_⟩|refine ⟨by first|rfl|(simp only [List.length_set,List.length_append,List.length_cons,List.length_nil];rfl)|(simp;done)|(simp;omega),?_⟩):JQ n X (fun a w=>∃ c,(F c).1∧(F c).2.2.2.2<(F z1).2.2.2.2∧St n X (F c).2.1 (F c).2.2.1 (F c).2.2.2.1 a w) E L Φ :=
 fun _ _ d=>⟨b,e,hμ,d.size,d.defers,d.has.weaken (N7 hE),(d.world.sub hL).foll hΦ⟩
theorem A7y {x y:Code} {β1:Type} (F:β1→Prop×bY×Own×List Pers) (d:J P n X x (Exit.then (fun a w=>∃ b,(F b).1∧St n X (F b).2.1 (F b).2.2.1 (F b).2.2.2 a w) Q) E L Φ) (c:∀ b,(F b).1→J P n X y Q (F b).2.1 (F b).2.2.1 (F b).2.2.2):J P n X (.seq x y) Q E L Φ :=
 JS1 (fun b=>(F b).1) (fun b=>(F b).2.1) (fun b=>(F b).2.2.1) (fun b=>(F b).2.2.2) d c
theorem W8 {β1:Type} {F:β1→Prop×bY×Own×List Pers} (b:β1) (e:(F b).1) (hL:List.Sublist (F b).2.2.1 L) (hΦ:A7 Φ (F b).2.2.2) (hE:O1 E (F b).2.1:=by repeat' first|exact trivial|refine ⟨rfl,?_⟩|refine ⟨by first|rfl|(simp only [List.length_set,List.length_append,List.length_cons,List.length_nil];rfl)|(simp;done)|(simp;omega),?_⟩):JQ n X (fun a w=>∃ c,(F c).1∧St n X (F c).2.1 (F c).2.2.1 (F c).2.2.2 a w) E L Φ :=
 fun _ _ d=>⟨b,e,d.size,d.defers,d.has.weaken (N7 hE),(d.world.sub hL).foll hΦ⟩
theorem E8k {c:Code} {β1 β2 β3 β4:Type} (F:β1→β2→β3→β4→Prop×bY×Own×List Pers×Nat) (d:β1) (f:β2) (e:β3) (b:β4) (l:(F d f e b).1) (hL:List.Sublist (F d f e b).2.2.1 L) (hΦ:A7 Φ (F d f e b).2.2.2.1) (h:∀ d f e b,(F d f e b).1→J P n X c (Exit.then (fun a w=>∃ k j i g,(F k j i g).1∧(F k j i g).2.2.2.2<(F d f e b).2.2.2.2∧St n X (F k j i g).2.1 (F k j i g).2.2.1 (F k j i g).2.2.2.1 a w) Q) (F d f e b).2.1 (F d f e b).2.2.1 (F d f e b).2.2.2.1) (hE:O1 E (F d f e b).2.1:=by repeat' first|exact trivial|refine ⟨rfl,?_⟩|refine ⟨by first|rfl|(simp only [List.length_set,List.length_append,List.length_cons,List.length_nil];rfl)|(simp;done)|(simp;omega),?_⟩):J P n X (.loop c) Q E L Φ :=
 JL4 (fun d f e b=>(F d f e b).1) (fun d f e b=>(F d f e b).2.1) (fun d f e b=>(F d f e b).2.2.1) (fun d f e b=>(F d f e b).2.2.2.1) (fun d f e b=>(F d f e b).2.2.2.2) d f e b l hE hL hΦ h
theorem E4y {β1 β2 β3 β4:Type} {F:β1→β2→β3→β4→Prop×bY×Own×List Pers×Nat} {z1:β1} {z2:β2} {z3:β3} {z4:β4} (c:β1) (e:β2) (d:β3) (b:β4) (l:(F c e d b).1) (hμ:(F c e d b).2.2.2.2<(F z1 z2 z3 z4).2.2.2.2) (hL:List.Sublist (F c e d b).2.2.1 L) (hΦ:A7 Φ (F c e d b).2.2.2.1) (hE:O1 E (F c e d b).2.1:=by repeat' first|exact trivial|refine ⟨rfl,?_⟩|refine ⟨by first|rfl|(simp only [List.length_set,List.length_append,List.length_cons,List.length_nil];rfl)|(simp;done)|(simp;omega),?_⟩):JQ n X (fun a w=>∃ j i g f,(F j i g f).1∧(F j i g f).2.2.2.2<(F z1 z2 z3 z4).2.2.2.2∧St n X (F j i g f).2.1 (F j i g f).2.2.1 (F j i g f).2.2.2.1 a w) E L Φ :=
 fun _ _ k=>⟨c,e,d,b,l,hμ,k.size,k.defers,k.has.weaken (N7 hE),(k.world.sub hL).foll hΦ⟩
theorem F5m {x y:Code} {β1 β2 β3 β4:Type} (F:β1→β2→β3→β4→Prop×bY×Own×List Pers) (g:J P n X x (Exit.then (fun a w=>∃ d b e c,(F d b e c).1∧St n X (F d b e c).2.1 (F d b e c).2.2.1 (F d b e c).2.2.2 a w) Q) E L Φ) (f:∀ d b e c,(F d b e c).1→J P n X y Q (F d b e c).2.1 (F d b e c).2.2.1 (F d b e c).2.2.2):J P n X (.seq x y) Q E L Φ :=
 JS4 (fun d b e c=>(F d b e c).1) (fun d b e c=>(F d b e c).2.1) (fun d b e c=>(F d b e c).2.2.1) (fun d b e c=>(F d b e c).2.2.2) g f
theorem E7y {β1 β2 β3 β4:Type} {F:β1→β2→β3→β4→Prop×bY×Own×List Pers} (d:β1) (c:β2) (b:β3) (e:β4) (l:(F d c b e).1) (hL:List.Sublist (F d c b e).2.2.1 L) (hΦ:A7 Φ (F d c b e).2.2.2) (hE:O1 E (F d c b e).2.1:=by repeat' first|exact trivial|refine ⟨rfl,?_⟩|refine ⟨by first|rfl|(simp only [List.length_set,List.length_append,List.length_cons,List.length_nil];rfl)|(simp;done)|(simp;omega),?_⟩):JQ n X (fun a w=>∃ i f j g,(F i f j g).1∧St n X (F i f j g).2.1 (F i f j g).2.2.1 (F i f j g).2.2.2 a w) E L Φ :=
 fun _ _ k=>⟨d,c,b,e,l,k.size,k.defers,k.has.weaken (N7 hE),(k.world.sub hL).foll hΦ⟩
theorem F2w {c:Code} {β1 β2 β3 β4 β5:Type} (F:β1→β2→β3→β4→β5→Prop×bY×Own×List Pers×Nat) (d:β1) (f:β2) (e:β3) (b:β4) (g:β5) (o:(F d f e b g).1) (hL:List.Sublist (F d f e b g).2.2.1 L) (hΦ:A7 Φ (F d f e b g).2.2.2.1) (h:∀ d f e b g,(F d f e b g).1→J P n X c (Exit.then (fun a w=>∃ l k j i m,(F l k j i m).1∧(F l k j i m).2.2.2.2<(F d f e b g).2.2.2.2∧St n X (F l k j i m).2.1 (F l k j i m).2.2.1 (F l k j i m).2.2.2.1 a w) Q) (F d f e b g).2.1 (F d f e b g).2.2.1 (F d f e b g).2.2.2.1) (hE:O1 E (F d f e b g).2.1:=by repeat' first|exact trivial|refine ⟨rfl,?_⟩|refine ⟨by first|rfl|(simp only [List.length_set,List.length_append,List.length_cons,List.length_nil];rfl)|(simp;done)|(simp;omega),?_⟩):J P n X (.loop c) Q E L Φ :=
 JL5 (fun d f e b g=>(F d f e b g).1) (fun d f e b g=>(F d f e b g).2.1) (fun d f e b g=>(F d f e b g).2.2.1) (fun d f e b g=>(F d f e b g).2.2.2.1) (fun d f e b g=>(F d f e b g).2.2.2.2) d f e b g o hE hL hΦ h
theorem E9d {β1 β2 β3 β4 β5:Type} {F:β1→β2→β3→β4→β5→Prop×bY×Own×List Pers×Nat} {z1:β1} {z2:β2} {z3:β3} {z4:β4} {z5:β5} (c:β1) (e:β2) (d:β3) (b:β4) (f:β5) (o:(F c e d b f).1) (hμ:(F c e d b f).2.2.2.2<(F z1 z2 z3 z4 z5).2.2.2.2) (hL:List.Sublist (F c e d b f).2.2.1 L) (hΦ:A7 Φ (F c e d b f).2.2.2.1) (hE:O1 E (F c e d b f).2.1:=by repeat' first|exact trivial|refine ⟨rfl,?_⟩|refine ⟨by first|rfl|(simp only [List.length_set,List.length_append,List.length_cons,List.length_nil];rfl)|(simp;done)|(simp;omega),?_⟩):JQ n X (fun a w=>∃ l j i g k,(F l j i g k).1∧(F l j i g k).2.2.2.2<(F z1 z2 z3 z4 z5).2.2.2.2∧St n X (F l j i g k).2.1 (F l j i g k).2.2.1 (F l j i g k).2.2.2.1 a w) E L Φ :=
 fun _ _ m=>⟨c,e,d,b,f,o,hμ,m.size,m.defers,m.has.weaken (N7 hE),(m.world.sub hL).foll hΦ⟩
theorem F4s {c:Code} {β1 β2 β3 β4 β5 β6:Type} (F:β1→β2→β3→β4→β5→β6→Prop×bY×Own×List Pers×Nat) (i:β1) (e:β2) (d:β3) (b:β4) (f:β5) (g:β6) (q:(F i e d b f g).1) (hL:List.Sublist (F i e d b f g).2.2.1 L) (hΦ:A7 Φ (F i e d b f g).2.2.2.1) (h:∀ i e d b f g,(F i e d b f g).1→J P n X c (Exit.then (fun a w=>∃ k o m l p j,(F k o m l p j).1∧(F k o m l p j).2.2.2.2<(F i e d b f g).2.2.2.2∧St n X (F k o m l p j).2.1 (F k o m l p j).2.2.1 (F k o m l p j).2.2.2.1 a w) Q) (F i e d b f g).2.1 (F i e d b f g).2.2.1 (F i e d b f g).2.2.2.1) (hE:O1 E (F i e d b f g).2.1:=by repeat' first|exact trivial|refine ⟨rfl,?_⟩|refine ⟨by first|rfl|(simp only [List.length_set,List.length_append,List.length_cons,List.length_nil];rfl)|(simp;done)|(simp;omega),?_⟩):J P n X (.loop c) Q E L Φ :=
 JL6 (fun i e d b f g=>(F i e d b f g).1) (fun i e d b f g=>(F i e d b f g).2.1) (fun i e d b f g=>(F i e d b f g).2.2.1) (fun i e d b f g=>(F i e d b f g).2.2.2.1) (fun i e d b f g=>(F i e d b f g).2.2.2.2) i e d b f g q hE hL hΦ h
theorem F4c {β1 β2 β3 β4 β5 β6:Type} {F:β1→β2→β3→β4→β5→β6→Prop×bY×Own×List Pers×Nat} {z1:β1} {z2:β2} {z3:β3} {z4:β4} {z5:β5} {z6:β6} (c:β1) (f:β2) (e:β3) (d:β4) (g:β5) (b:β6) (q:(F c f e d g b).1) (hμ:(F c f e d g b).2.2.2.2<(F z1 z2 z3 z4 z5 z6).2.2.2.2) (hL:List.Sublist (F c f e d g b).2.2.1 L) (hΦ:A7 Φ (F c f e d g b).2.2.2.1) (hE:O1 E (F c f e d g b).2.1:=by repeat' first|exact trivial|refine ⟨rfl,?_⟩|refine ⟨by first|rfl|(simp only [List.length_set,List.length_append,List.length_cons,List.length_nil];rfl)|(simp;done)|(simp;omega),?_⟩):JQ n X (fun a w=>∃ o k j i l m,(F o k j i l m).1∧(F o k j i l m).2.2.2.2<(F z1 z2 z3 z4 z5 z6).2.2.2.2∧St n X (F o k j i l m).2.1 (F o k j i l m).2.2.1 (F o k j i l m).2.2.2.1 a w) E L Φ :=
 fun _ _ p=>⟨c,f,e,d,g,b,q,hμ,p.size,p.defers,p.has.weaken (N7 hE),(p.world.sub hL).foll hΦ⟩
theorem F6r {c:Code} {β1 β2 β3 β4 β5 β6 β7:Type} (F:β1→β2→β3→β4→β5→β6→β7→Prop×bY×Own×List Pers×Nat) (j:β1) (f:β2) (d:β3) (b:β4) (g:β5) (i:β6) (e:β7) (s:(F j f d b g i e).1) (hL:List.Sublist (F j f d b g i e).2.2.1 L) (hΦ:A7 Φ (F j f d b g i e).2.2.2.1) (h:∀ j f d b g i e,(F j f d b g i e).1→J P n X c (Exit.then (fun a w=>∃ m q p o r k l,(F m q p o r k l).1∧(F m q p o r k l).2.2.2.2<(F j f d b g i e).2.2.2.2∧St n X (F m q p o r k l).2.1 (F m q p o r k l).2.2.1 (F m q p o r k l).2.2.2.1 a w) Q) (F j f d b g i e).2.1 (F j f d b g i e).2.2.1 (F j f d b g i e).2.2.2.1) (hE:O1 E (F j f d b g i e).2.1:=by repeat' first|exact trivial|refine ⟨rfl,?_⟩|refine ⟨by first|rfl|(simp only [List.length_set,List.length_append,List.length_cons,List.length_nil];rfl)|(simp;done)|(simp;omega),?_⟩):J P n X (.loop c) Q E L Φ :=
 JL7 (fun j f d b g i e=>(F j f d b g i e).1) (fun j f d b g i e=>(F j f d b g i e).2.1) (fun j f d b g i e=>(F j f d b g i e).2.2.1) (fun j f d b g i e=>(F j f d b g i e).2.2.2.1) (fun j f d b g i e=>(F j f d b g i e).2.2.2.2) j f d b g i e s hE hL hΦ h
theorem F6n {β1 β2 β3 β4 β5 β6 β7:Type} {F:β1→β2→β3→β4→β5→β6→β7→Prop×bY×Own×List Pers×Nat} {z1:β1} {z2:β2} {z3:β3} {z4:β4} {z5:β5} {z6:β6} {z7:β7} (d:β1) (g:β2) (f:β3) (e:β4) (i:β5) (b:β6) (c:β7) (s:(F d g f e i b c).1) (hμ:(F d g f e i b c).2.2.2.2<(F z1 z2 z3 z4 z5 z6 z7).2.2.2.2) (hL:List.Sublist (F d g f e i b c).2.2.1 L) (hΦ:A7 Φ (F d g f e i b c).2.2.2.1) (hE:O1 E (F d g f e i b c).2.1:=by repeat' first|exact trivial|refine ⟨rfl,?_⟩|refine ⟨by first|rfl|(simp only [List.length_set,List.length_append,List.length_cons,List.length_nil];rfl)|(simp;done)|(simp;omega),?_⟩):JQ n X (fun a w=>∃ q m k j o p l,(F q m k j o p l).1∧(F q m k j o p l).2.2.2.2<(F z1 z2 z3 z4 z5 z6 z7).2.2.2.2∧St n X (F q m k j o p l).2.1 (F q m k j o p l).2.2.1 (F q m k j o p l).2.2.2.1 a w) E L Φ :=
 fun _ _ r=>⟨d,g,f,e,i,b,c,s,hμ,r.size,r.defers,r.has.weaken (N7 hE),(r.world.sub hL).foll hΦ⟩
theorem F6i {x y:Code} {β1 β2 β3 β4 β5 β6 β7:Type} (F:β1→β2→β3→β4→β5→β6→β7→Prop×bY×Own×List Pers) (j:J P n X x (Exit.then (fun a w=>∃ h e c b f g d,(F h e c b f g d).1∧St n X (F h e c b f g d).2.1 (F h e c b f g d).2.2.1 (F h e c b f g d).2.2.2 a w) Q) E L Φ) (i:∀ h e c b f g d,(F h e c b f g d).1→J P n X y Q (F h e c b f g d).2.1 (F h e c b f g d).2.2.1 (F h e c b f g d).2.2.2):J P n X (.seq x y) Q E L Φ :=
 JS7 (fun h e c b f g d=>(F h e c b f g d).1) (fun h e c b f g d=>(F h e c b f g d).2.1) (fun h e c b f g d=>(F h e c b f g d).2.2.1) (fun h e c b f g d=>(F h e c b f g d).2.2.2) j i
theorem F4k {β1 β2 β3 β4 β5 β6 β7:Type} {F:β1→β2→β3→β4→β5→β6→β7→Prop×bY×Own×List Pers} (d:β1) (g:β2) (f:β3) (e:β4) (i:β5) (b:β6) (c:β7) (s:(F d g f e i b c).1) (hL:List.Sublist (F d g f e i b c).2.2.1 L) (hΦ:A7 Φ (F d g f e i b c).2.2.2) (hE:O1 E (F d g f e i b c).2.1:=by repeat' first|exact trivial|refine ⟨rfl,?_⟩|refine ⟨by first|rfl|(simp only [List.length_set,List.length_append,List.length_cons,List.length_nil];rfl)|(simp;done)|(simp;omega),?_⟩):JQ n X (fun a w=>∃ r o k j p q m,(F r o k j p q m).1∧St n X (F r o k j p q m).2.1 (F r o k j p q m).2.2.1 (F r o k j p q m).2.2.2 a w) E L Φ :=
 fun _ _ l=>⟨d,g,f,e,i,b,c,s,l.size,l.defers,l.has.weaken (N7 hE),(l.world.sub hL).foll hΦ⟩
theorem zst {o:Oper} {T U:TypeId} {x y:Operand} {a b:List UInt8} (c:o.op=.binOp .add T x y U) (e:ev E x=some (.string (bs a))) (d:ev E y=some (.string (bs b))) (h:a.length+b.length≤9223372036854775807:=by first|omega|(simp only [List.length_cons,List.length_nil,List.length_append,List.length_take,List.length_drop];omega)):J9 P X o E L Φ (.string (bs (a++b))):=D4f c e d h
end
def D0p (P:Program) (gf:FuncId) (a:List Value) (L1:Own) (Φ0:List Pers) {β:Type} (enc:β→Value) (xs:List β):Prop :=
 HasBody P gf∧∀ (l:Nat) (w:World) (h:Hp) (I:List β→Own→List Pers→Prop) (Ix:Own→List Pers→Prop) (L:Own) (Φ:List Pers),I xs L Φ→(∀ q ∈ Φ0,q.p h)→(∀ q ∈ Φ,q.p h)→h.sub w→A3j (L1++L) h w →
  (∀ x rest L Φ,I (x::rest) L Φ→B4i P l (enc x) L Φ fun b L' Φ'=>if b then I rest L' Φ' else Ix L' Φ') →
  Calls P gf (#[.func (.yield l) #[] #[]]++a.toArray) w fun e w'=>(∃ v,e=.returned v)∧∃ L' Φ',(I [] L' Φ'∨Ix L' Φ')∧cE (cx w h ((L1++L).map Prod.fst)) L' Φ' w'
theorem Con.lend {P:Program} {f:FuncId} {args:List Value} {L0:Own} {Φ0:List Pers} {α:Type} {val:α→Value} {L1:α→Own} {β:Type} {c:β→List Value} {T sz:Nat} {r:VR} {xs:List β} (z:bT sz xs.length r) (m:Con P f args L0 (sl c (va r.q) xs::Φ0) α val L1 (fun _=>[])) :
  Con P f args (vo c T r xs++L0) Φ0 α val (fun x=>vo c T r xs++L1 x) (fun _=>[]):=by
 refine ⟨m.1,fun w h hΦ hs ho=>?_⟩
 unfold vo at ho ⊢
 cases hq:r.q with
 | none =>
  rw [hq] at ho
  unfold bT at z
  rw [hq] at z
  have hx:xs=[]:=List.length_eq_zero_iff.1 z.1
  refine (m.2 w h (fun q l=>?_) hs ho)
  rcases List.mem_cons.1 l with rfl | l
  ·rw [hq,hx];rfl
  ·exact hΦ q l
 | some b =>
  rw [hq] at ho
  simp only [List.cons_append,List.nil_append] at ho ⊢
  obtain ⟨o,hbo⟩:∃ o,bx b (xs.flatMap c++r.j) T=(b,o):=⟨_,rfl⟩
  have a4:o=.cells (xs.flatMap c++r.j).toArray T (0,0):=(Prod.mk.inj hbo).2.symm
  rw [hbo] at ho ⊢
  obtain ⟨a1,y⟩:=ho.1 (b,o) (List.mem_cons_self ..)
  simp only at a1 y
  have t:=ho.2
  rw [List.map_cons,List.nodup_cons] at t
  have a6:h.le (fun i=>if i=b then some o else h i):=fun i u e=>by
   have:i≠b:=fun e'=>by rw [e',y] at e;cases e
   simp only [if_neg this];exact e
  refine (m.2 w (fun i=>if i=b then some o else h i) (fun q l=>?_) (fun i u e=>?_) ⟨fun e g=>⟨(ho.1 e (List.mem_cons_of_mem _ g)).1,?_⟩,t.2⟩).mono fun e w' hx=>?_
  ·rcases List.mem_cons.1 l with rfl | l
   ·rw [hq]
    refine .inr ⟨rfl,_,_,_,show (if b=b then some o else h b)=_ by rw [if_pos rfl,a4],fun j v hj=>?_⟩
    simp only [Nat.zero_add,List.getElem?_toArray]
    rw [List.getElem?_append_left (List.getElem?_eq_some_iff.1 hj).1];exact hj
   ·exact q.mono a6 (hΦ q l)
  ·simp only at e
   by_cases p:i=b
   ·rw [if_pos p] at e;rw [p,a1,e]
   ·rw [if_neg p] at e;exact hs i u e
  ·have:e.1≠b:=fun e'=>t.1 (List.mem_map.2 ⟨e,g,e'⟩)
   simp only [if_neg this];exact (ho.1 e (List.mem_cons_of_mem _ g)).2
  ·obtain ⟨x,rfl,h2,a⟩:=hx
   refine ⟨x,rfl,⟨(fun i=>if i=b then none else h2 i),?_⟩⟩
   refine ⟨fun q l=>(by cases l),fun i u e=>?_,fun i u e=>?_,fun i p=>?_,⟨fun e g=>?_,?_⟩,fun e g=>?_,⟨a.kept.os,a.kept.tape,a.kept.output,a.kept.size,fun k hk l=>a.kept.block k hk (fun a2=>l (List.mem_cons_of_mem _ a2))⟩,fun d hd=>(by cases hd)⟩
   ·skip
    by_cases p:i=b
    ·rw [if_pos p] at e;cases e
    ·rw [if_neg p] at e;exact a.sub i u e
   ·have:i≠b:=fun e'=>by
     have e2:h i=some u:=e
     rw [e',y] at e2;cases e2
    simp only [if_neg this]
    exact a.le i u (by show (if i=b then some o else h i)=some u;rw [if_neg this];exact e)
   ·skip
    by_cases hb:i=b
    ·rw [if_pos hb] at p;exact absurd rfl p
    ·rw [if_neg hb] at p
     rcases a.dom i p with n | n
     ·left
      intro e
      apply n
      show (if i=b then some o else h i)=none
      rw [if_neg hb];exact e
     ·right
      rcases n with n | n
      ·exact .inl (List.mem_cons_of_mem _ n)
      ·exact .inr n
   ·have s:h2 b=some o:=a.le b o (by show (if b=b then some o else h b)=some o;rw [if_pos rfl])
    rcases List.mem_cons.1 g with rfl | g
    ·exact ⟨a.sub b o s,by simp⟩
    ·refine ⟨(a.own.1 e g).1,?_⟩
     by_cases hb:e.1=b
     ·simp [hb]
     ·simp only [if_neg hb];exact (a.own.1 e g).2
   ·rw [List.map_cons,List.nodup_cons]
    refine ⟨fun l=>?_,a.own.2⟩
    obtain ⟨e,g,hE⟩:=List.mem_map.1 l
    have s:h2 b=some o:=a.le b o (by show (if b=b then some o else h b)=some o;rw [if_pos rfl])
    have:=(a.own.1 e g).2
    simp only at hE
    rw [hE,s] at this;cases this
   ·rcases List.mem_cons.1 g with rfl | g
    ·exact .inl (List.mem_cons_self ..)
    ·rcases a.may e g with n | n
     ·exact .inl (List.mem_cons_of_mem _ n)
     ·exact .inr n
section
variable {P:Program} {n:Nat} {X:Cx} {K:Act→World→Prop} {Q:Exit→Act→World→Prop} {E E':bY} {L L':Own} {Φ Φ':List Pers}
theorem Tri.own {o:Oper} {α:Type} {val:α→Value} {L1:α→Own} {Φ1:α→List Pers} (h:Tri P n X o E L Φ α val L1 Φ1) (L':α→Own) (hL:∀ x,L1 x=L' x):Tri P n X o E L Φ α val L' Φ1:=by
 obtain rfl:L1=L':=funext hL
 exact h
theorem E1n {gf:FuncId} {g:Func} {c:Code} {a:List Value} {Φ0:List Pers} {β:Type} {enc:β→Value} {xs:List β} (L1:Own)
  (m : P.funcs[gf]? = some g) (hb : g.body = some c) (k : (g.name == "runtime.NumGoroutine") = false) (r : g.ntmps = n) (j : Nat.ble (a.length + 1) n = true) (E0 : Nat → bY) (hE : ∀ l, O1 ((List.range (a.length + 1)).zip (.func (.yield l) #[] #[] :: a)) (E0 l))
  (h:∀ (X:Cx) (l:Nat) (I:List β→Own→List Pers→Prop) (Ix:Own→List Pers→Prop) (L:Own) (Φ:List Pers),X.M=(L1++L).map Prod.fst→X.rho=none→X.D=[]→I xs L Φ →
   (∀ x rest L Φ,I (x::rest) L Φ→B4i P l (enc x) L Φ fun b L' Φ'=>if b then I rest L' Φ' else Ix L' Φ')→J P n X c (D4n P X g fun L' Φ'=>I [] L' Φ'∨Ix L' Φ') (E0 l) (L1++(L++[])) (Φ0++Φ)):D0p P gf a L1 Φ0 enc xs:=by
 refine ⟨⟨by simp [m,hb,k]⟩,fun l w p I Ix L Φ hI hΦ0 hΦ hs ho hy=>?_⟩
 have f:(#[.func (.yield l) #[] #[]]++a.toArray:Array Value)=(Value.func (.yield l) #[] #[]::a).toArray:=by simp
 rw [f]
 simp only [List.append_nil] at h
 refine (callsIn_wide).1 (callsIn_of_wp_marks m hb trivial (h (cx w p _) l I _ L _ rfl rfl rfl hI hy _ w ⟨?_,rfl,?_,p,⟨?_,hs,Hp.le_refl p,fun b hb=>.inl hb,ho,fun e t=>.inl (List.mem_map_of_mem t),KeptBut.refl _ w,fun d s=>(by cases s)⟩⟩))
 ·have o:a.length+1≤n:=Nat.le_of_ble_eq_true j
  simp [r];omega
 ·rw [r]
  exact B6w (args:=Value.func _ _ _::a) j (hE l)
 ·intro q i
  rcases List.mem_append.1 i with i | i
  ·exact hΦ0 q i
  ·exact hΦ q i
theorem E6k {g:Operand} {p:Nat} {ps:Array Tmp} {assign body:Code} {gf:FuncId} {lb:List Value} {Φ0:List Pers} {β:Type} {enc:β→Value} {xs:List β}
  (ah:X.rho=none) (hg:ev E g=some (.func (.func gf) #[] lb.toArray)) {L1:Own} (an:D0p P gf lb L1 Φ0 enc xs) (hΦ0:A7 Φ Φ0) (b0:ps=#[p]) (b1:Y5 n (some p)=true)
  {σ:Type} (I:List β→σ→Prop) (Jx:Code→σ→Prop) (Lk:σ→Own) (Φk:σ→List Pers) (s0:σ) (h0:I xs s0) (hL:(Lk s0++L1).Sublist L) (hΦ:A7 Φ (Φk s0))
  (a7:∀ x rest s,I (x::rest) s→∀ (Y Y':Cx) (K:Act→World→Prop),Y.rho.isSome=true →
   (∀ E L Φ,J P n Y' body (RP Y' I Jx Lk Φk rest) E L Φ→JQ n Y K E L Φ)→J P n Y assign (Exit.then K (fun _ _ _=>False)) (bY.put E (some p) (enc x)) (Lk s) (Φk s))
  (a6:∀ d s,d ∉ X.D.map Prod.fst→I [] s→JQ n (X.wd ((d,.deferred (some []))::X.D)) (Q .normal) E (Lk s) (Φk s))
  (aj:∀ d c s,d ∉ X.D.map Prod.fst→Jx c s→J P n (X.wd ((d,.deferred (some []))::X.D)) c Q E (Lk s) (Φk s)):J P n X (.rangeFunc g ps assign body) Q E L Φ:=by
 intro a w hs
 subst b0
 rw [ah]
 refine wpIn_rangeFunc ?_
 intro fn _
 obtain ⟨f,hrec⟩:∃ f:LoopState→Option Code→Loop,f=fun y z=>{state:=y,pending:=z,fn,tmps:=a.tmps,params:=#[p],assign,body,defers:=w.heap.size}:=⟨_,rfl⟩
 have he:=run_enterLoop_outer (P:=P) (w:=w) fn a.tmps #[p] assign body
 rw [show ({state:=.ready,pending:=none,fn:=fn,tmps:=a.tmps,params:=#[p],assign:=assign,body:=body,defers:=w.heap.size}:Loop)=f .ready none by rw [hrec]] at he
 obtain ⟨w1,hw1⟩:∃ w1,(w.alloc (.deferred (some []))).alloc (.loop (f .ready none))=w1:=⟨_,rfl⟩
 rw [hw1] at he
 refine ⟨_,[B8t _],_,{target:=.fn (.func gf) lb.toArray,args:=#[.func (.yield (w.heap.size+1)) #[] #[]]},w1,gf,
  #[.func (.yield (w.heap.size+1)) #[] #[]]++lb.toArray,w1,he,?_,fun _ _=>trivial,?_,A7w,?_⟩
 ·simp only [resolve,D0 hs.has hg]
  simp [go_sem]
 ·simp [invoke,A1f an.1]
 ·-- the caller's state,the two blocks laid
  have ai:cE X ((w.heap.size+1,.loop (f .ready none))::(w.heap.size,.deferred (some []))::(Lk s0++L1)) Φ w1:=by
   have h1:=(hs.world.sub hL).alloc (.deferred (some []))
   have h2:=h1.alloc (.loop (f .ready none))
   rw [World.size_alloc,hw1] at h2
   exact h2
  have ao:w.heap.size ∉ X.D.map Prod.fst:=fun hm=>by
   obtain ⟨e,ac,hE⟩:=List.mem_map.1 hm
   obtain ⟨q,hq⟩:=hs.world
   have:=(Array.getElem?_eq_some_iff.1 (hq.res e ac).1).1
   omega
  have au:=ai.perm (L':=L1++((w.heap.size+1,.loop (f .ready none))::(w.heap.size,.deferred (some []))::Lk s0)) (List.perm_append_comm (l₁:=(w.heap.size+1,Obj.loop (f .ready none))::(w.heap.size,Obj.deferred (some []))::Lk s0))
  obtain ⟨q,hq⟩:=au
  let It:List β→Own→List Pers→Prop:=fun rem L Φ=>∃ s,I rem s∧L=(w.heap.size+1,.loop (f .ready none))::(w.heap.size,.deferred (some []))::Lk s∧Φ=Φk s
  let Itx:Own→List Pers→Prop:=fun L Φ=>∃ c s,Jx c s∧L=(w.heap.size+1,.loop (f .done (some c)))::(w.heap.size,.deferred (some []))::Lk s∧Φ=Φk s
  have ae:=an.2 (w.heap.size+1) w1 q It Itx _ (Φk s0) ⟨s0,h0,rfl,rfl⟩ (hΦ0 q hq.facts) (hΦ q hq.facts) hq.sub hq.own ?_
  ·refine B4n (ae.mono fun e w' hx=>?_)
   obtain ⟨⟨v,rfl⟩,L',Φ',hI,az⟩:=hx
   have al:=cE.call (L0:=L1++((w.heap.size+1,.loop (f .ready none))::(w.heap.size,.deferred (some []))::Lk s0)) (L2:=[]) hq oom az
   rw [List.append_nil] at al
   have l:∀ (y:LoopState) (z:Option Code) (s:σ),y≠.busy→L'=(w.heap.size+1,.loop (f y z))::(w.heap.size,.deferred (some []))::Lk s→Φ'=Φk s →
     (Instr.endLoop (w.heap.size+1)).run P w'=.ok z (w'.putObj (w.heap.size+1) (.loop {f y z with state:=.exhausted})) ∧
     St n (X.wd ((w.heap.size,.deferred (some []))::X.D)) E (Lk s) (Φk s) {a with defers:=[B8t w.heap.size]++a.defers} (w'.putObj (w.heap.size+1) (.loop {f y z with state:=.exhausted})):=fun y z s ai r hΦ'=>by
    subst r hΦ'
    obtain ⟨q2,hq2⟩:=al
    have hl:=(hq2.own.1 _ (List.mem_cons_self ..)).1
    simp only at hl
    have i:=run_endLoop (P:=P) hl (by rw [hrec];exact ai)
    rw [hrec] at i ⊢
    refine ⟨i,⟨hs.size,?_,hs.has,?_⟩⟩
    ·show [B8t w.heap.size]++a.defers=_
     rw [hs.defers]
     unfold Cx.marks Cx.wd
     simp only [ah];rfl
    ·have u:cE X ((w.heap.size,.deferred (some []))::Lk s) (Φk s++Φ) (w'.putObj (w.heap.size+1) (.loop {f y z with state:=.exhausted})):=by
      have h4:=cE.reserve (X:=X) ⟨q2,hq2⟩
      have a9:=hq2.own.2
      have h5:=cE.take (X:=X) (d:=(w.heap.size+1,.loop (f y z))) (ds:=X.D) ?_ (.loop {f y z with state:=.exhausted}) h4
      ·exact h5
      ·intro hm
       obtain ⟨e,ac,hE⟩:=List.mem_map.1 hm
       obtain ⟨q3,hq3⟩:=hs.world
       have:=(Array.getElem?_eq_some_iff.1 (hq3.res e ac).1).1
       simp only at hE;omega
     rw [hrec] at u
     exact u.reserve.foll fun p hp q hq=>hp q (List.mem_append_left _ hq)
   rcases hI with ⟨s,hI,r,hΦ'⟩ | ⟨c,s,hI,r,hΦ'⟩
   ·obtain ⟨i,ab⟩:=l .ready none s oom r hΦ'
    exact ⟨_,_,i,a6 _ s ao hI _ _ ab⟩
   ·obtain ⟨i,ab⟩:=l .done (some c) s oom r hΦ'
    have h6:=aj _ c s ao hI _ _ ab
    have:(X.wd ((w.heap.size,.deferred (some []))::X.D)).rho=none:=ah
    rw [this] at h6
    exact ⟨_,_,i,h6⟩
  ·-- one round
   rintro x rest L0 Φ0 ⟨s,hIs,rfl,rfl⟩ wr hr hfr hsr hor
   have hl:=(hor.1 _ (List.mem_cons_self ..)).1
   simp only at hl
   have hy:=run_yield (P:=P) (args:=#[enc x]) hl (by rw [hrec];rfl)
   rw [hrec] at hy
   refine ⟨_,_,assign,body,hy,roundIn_of_wpIn trivial ?_⟩
   let M0:List Nat:=(w.heap.size+1)::w.heap.size::(Lk s).map Prod.fst
   let Y:Cx:=⟨wr,hr,M0,some (w.heap.size+1),[(w.heap.size+1,.loop (f .ready none)),(w.heap.size,.deferred (some []))]⟩
   let Y':Cx:=⟨wr,hr,M0,some (w.heap.size+1),[(w.heap.size+1,.loop {f .ready none with state:=.busy}),(w.heap.size,.deferred (some []))]⟩
   have hb:=a7 x rest s hIs Y Y' (fun a₁ w₁=>∃ w₂,(Instr.beginRound (w.heap.size+1)).run P w₁=.ok () w₂∧body.wpIn (Fence.wide.inRound (w.heap.size+1)) 0 P
    (roundPost P (w.heap.size+1) fun e w'=>∃ b L' Φ',e=.returned (.bool b)∧(if b then It rest L' Φ' else Itx L' Φ')∧cE (cx wr hr M0) L' Φ' w') a₁ w₂) rfl ?_
   ·refine hb _ _ ⟨?_,rfl,?_,_,⟨hfr,hsr,Hp.le_refl _,fun b hb=>.inl hb,hor.sub ((List.sublist_cons_self _ _).trans (List.sublist_cons_self _ _)),fun e he=>.inl ?_,KeptBut.refl _ _,fun d hd=>?_⟩⟩
    ·have:a.tmps.size=n:=hs.size
     simp [this]
    ·have:=hs.has.put (d:=p) (by rw [hs.size];simpa [Y5,Nat.blt_eq] using b1) (enc x)
     exact fun t v e=>by simpa [Act.put] using this t v e
    ·exact List.mem_cons_of_mem _ (List.mem_cons_of_mem _ (List.mem_map_of_mem he))
    ·have a9:=hor.2
     simp only [List.map_cons,List.nodup_cons,List.mem_cons,not_or] at a9
     simp only [Y,List.mem_cons,List.not_mem_nil,or_false] at hd
     rcases hd with rfl | rfl
     ·exact ⟨hl,(hor.1 _ (List.mem_cons_self ..)).2,fun e he hE=>a9.1.2 (by simp only at hE;rw [← hE];exact List.mem_map_of_mem he),.inr (by simp [Y,M0])⟩
     ·have h1:=hor.1 _ (List.mem_cons_of_mem _ (List.mem_cons_self ..))
      exact ⟨h1.1,h1.2,fun e he hE=>a9.2.1 (by simp only at hE;rw [← hE];exact List.mem_map_of_mem he),.inr (by simp [Y,M0])⟩
   ·-- the record turns to busy;the body;the record turns back
    intro E1 L3 Φ1 hJ a1 w2 hs1
    obtain ⟨q1,hq1⟩:=hs1.world
    have am:=(hq1.res (w.heap.size+1,.loop (f .ready none)) (by simp [Y])).1
    simp only at am
    refine ⟨_,run_beginRound am (by rw [hrec]),?_⟩
    have ap:cE Y' L3 Φ1 (w2.putObj (w.heap.size+1) (.loop {f .ready none with state:=.busy})):=by
     have:=cE.reput (X:=Y) (d:=w.heap.size+1) (o:=.loop (f .ready none)) (o':=.loop {f .ready none with state:=.busy}) (ds:=[(w.heap.size,.deferred (some []))]) oom hs1.world
     exact this
    have ad:=hJ a1 _ ⟨hs1.size,hs1.defers,hs1.has,ap⟩
    refine Code.wpIn_mono (fun e a2 w3 hp=>?_) ad
    have af:∀ (j:Option Code) (k:σ),cE Y' (Lk k) (Φk k) w3 →
      (Instr.endRound (w.heap.size+1) j).run P w3=.ok (.bool j.isNone) (w3.putObj (w.heap.size+1) (.loop (f (if j.isNone then .ready else .done) j))) ∧
      cE (cx wr hr M0) ((w.heap.size+1,.loop (f (if j.isNone then .ready else .done) j))::(w.heap.size,.deferred (some []))::Lk k) (Φk k) (w3.putObj (w.heap.size+1) (.loop (f (if j.isNone then .ready else .done) j))):=fun j k u=>by
     obtain ⟨q3,hq3⟩:=u
     have ar:=(hq3.res (w.heap.size+1,.loop {f .ready none with state:=.busy}) (by simp [Y'])).1
     simp only at ar
     have i:=run_endRound (P:=P) j ar
     refine ⟨by rw [hrec] at i ⊢;exact i,?_⟩
     have h4:=cE.reput (X:=Y') (d:=w.heap.size+1) (o:=.loop {f .ready none with state:=.busy}) (o':=.loop (f (if j.isNone then .ready else .done) j)) (ds:=[(w.heap.size,.deferred (some []))]) oom ⟨q3,hq3⟩
     exact cE.unres oom h4
    cases e with
    | normal =>
     obtain ⟨k,m,u⟩:=hp
     obtain ⟨i,h4⟩:=af none k u
     exact ⟨_,_,i,true,_,_,rfl,⟨k,m,rfl,rfl⟩,h4⟩
    | ret =>
     obtain ⟨k,m,u⟩:=hp
     obtain ⟨i,h4⟩:=af (some .ret) k u
     exact ⟨_,_,i,false,_,_,rfl,⟨.ret,k,m,rfl,rfl⟩,h4⟩
    | exit id =>
     obtain ⟨k,m,u⟩:=hp
     obtain ⟨i,h4⟩:=af (some (.exit id)) k u
     exact ⟨_,_,i,false,_,_,rfl,⟨.exit id,k,m,rfl,rfl⟩,h4⟩
    | goto t=>exact hp.elim
    | panic c=>exact hp.elim
    | outgrown=>exact hp.elim
end
section
variable {P:Program} {n:Nat} {X:Cx} {K:Act→World→Prop} {Q:Exit→Act→World→Prop} {E E':bY} {L L':Own} {Φ Φ':List Pers}
theorem C6v {T e sz ty b off dLen dCap sLen sCap TT:Nat} {a:Addr} {w:World} {cs us:List Value} (f:SlTy P T e sz) (i:w.heap[b]?=some (.cells cs.toArray TT (0,0))) (k:us.length=Nat.min sLen dLen * sz) (d:∀ j v,us[j]?=some v→w.cell? (a.add j)=some v)
  (hone:∀ v ∈ us,v.oneCell'=true) (c:off+us.length≤cs.length) :
  (Builtin.copy_ #[T,T] ty #[.slice (some ⟨b,off,none⟩) dLen dCap,.slice (some a) sLen sCap]).run P w=.ok (goInt (Nat.min sLen dLen)) (w.setRow b (A3s cs us off).toArray):=by
 have h:=run_firstCells_some (P:=P) w sz (Nat.min sLen dLen) a sLen sCap us k d
 have g:=run_storeCells_at P b off TT us 0 cs.toArray w i (by simpa using c) hone
 simp only [Builtin.copy_,Sem.run_bind,run_underlying f.ty,Result.andThen_ok,f.run,Builtin.lenOf]
 simp [h,g,A3s,Builtin.lenOf,run_underlying f.ty,f.run]
theorem C1n {T e sz ty dLen dCap sLen sCap:Nat} {d s:Option Addr} {w:World} (a:SlTy P T e sz) (c:Nat.min sLen dLen=0) :
  (Builtin.copy_ #[T,T] ty #[.slice d dLen dCap,.slice s sLen sCap]).run P w=.ok (goInt 0) w:=by
 have b:∀ (x:Addr),(loadCells x 0).run P w=.ok #[] w:=fun x=>by simpa using run_loadCells_list (P:=P) w x [] oom
 cases d<;>cases s<;>simp [Builtin.copy_,run_underlying a.ty,a.run,Builtin.lenOf,Builtin.firstCells,c,storeCells,b]
theorem B7z {α:Type} {f:α→List Value} {sz:Nat} (a:∀ x,(f x).length=sz) (xs:List α) (k:Nat):(xs.take k).flatMap f=(xs.flatMap f).take (k * sz):=by
 induction xs generalizing k with
 | nil=>simp
 | cons x xs ih =>
  cases k with
  | zero=>simp
  | succ k =>
   rw [List.take_succ_cons,List.flatMap_cons,List.flatMap_cons,ih,Nat.succ_mul,List.take_append,a,Nat.add_sub_cancel,List.take_of_length_le (l:=f x) (by rw [a];omega)]
theorem D6s {α:Type} {f:α→List Value} {sz:Nat} (a:∀ x,(f x).length=sz) (xs:List α) (k:Nat):(xs.drop k).flatMap f=(xs.flatMap f).drop (k * sz):=by
 induction xs generalizing k with
 | nil=>simp
 | cons x xs ih =>
  cases k with
  | zero=>simp
  | succ k =>
   rw [List.drop_succ_cons,List.flatMap_cons,ih,Nat.succ_mul,List.drop_append,a,Nat.add_sub_cancel,List.drop_of_length_le (l:=f x) (by rw [a];omega),List.nil_append]
theorem D8o {α:Type} {f:α→List Value} {sz:Nat} (a:∀ x,(f x).length=sz) (xs ys:List α) (j:List Value) (l:Nat) (h:l+ys.length≤xs.length):A3s (xs.flatMap f++j) (ys.flatMap f) (l * sz)=(xs.take l++(ys++xs.drop (l+ys.length))).flatMap f++j:=by
 have c:l * sz≤(xs.flatMap f).length:=by rw [G3 a];exact Nat.mul_le_mul_right _ opx
 have b:l * sz+ys.length * sz≤(xs.flatMap f).length:=by rw [G3 a,← Nat.add_mul];exact Nat.mul_le_mul_right _ h
 unfold A3s
 rw [G3 a ys,List.take_append_of_le_length c,List.drop_append_of_le_length b,List.flatMap_append,List.flatMap_append,B7z a,D6s a,Nat.add_mul]
 simp only [List.append_assoc]
theorem cE.vec {T:Nat} {α:Type} {f:α→List Value} {b k:Nat} {j:List Value} {xs ys:List α} {pre post:Own} {w:World} (a:cE X (pre++(vo f T ⟨some b,k,j⟩ xs++post)) Φ w):cE X (pre++(vo f T ⟨some b,k,j⟩ ys++post)) Φ (w.setRow b (ys.flatMap f++j).toArray):=by
 have g:w.heap[b]?=some (.cells (xs.flatMap f++j).toArray T (0,0)):=by
  obtain ⟨p,d⟩:=a
  exact (d.own.1 (bx b (xs.flatMap f++j) T) (List.mem_append_right _ (List.mem_append_left _ (by unfold vo;simp)))).1
 have hL:(pre++(vo f T ⟨some b,k,j⟩ xs++post))[pre.length]?=some (bx b (xs.flatMap f++j) T):=by simp [vo]
 have h:=a.set (w':=w.setRow b (ys.flatMap f++j).toArray) hL (setRow_heap w b _ _ T (0,0) g) (fun k c=>setRow_other w b k _ c) rfl rfl rfl oom
 have e:(pre++(vo f T ⟨some b,k,j⟩ xs++post)).set pre.length (bx b (ys.flatMap f++j) T)=pre++(vo f T ⟨some b,k,j⟩ ys++post):=by simp [vo]
 rw [← e];exact h
theorem E3z {o:Oper} {c:Call} {T e sz:Nat} {x y:Operand} {α:Type} {f:α→List Value} {r:VR} {xs ys:List α} {q:Option Addr} {m cc:Nat} {pre post:Own} (hT:SlTy P T e sz) (z:∀ x,(f x).length=sz) (a7:∀ x,(f x).all (·.oneCell')=true)
  (ho:o.op=.call c) (hc:c.callee=.builtin .copy) (a2:c.args=#[x,y]) (a3:c.argTypes=#[T,T]) (hx:ev E x=some (vv r xs.length)) (hy:ev E y=some (.slice q m cc)) (hm:m=ys.length) (hL:L=pre++(vo f e r xs++post))
  (hq:V3 Φ (sl f q ys)) (a6:bT sz xs.length r) :
  Tri P n X o E L Φ Unit (fun _=>.int .i64 ((min ys.length xs.length:Nat):Int)) (fun _=>pre++(vo f e r (ys.take xs.length++xs.drop ys.length)++post)) (fun _=>Φ):=by
 subst hm
 intro ac w K Q hs hk
 have s:=hs.world
 rw [hL] at s
 obtain ⟨w',d,hw'⟩:∃ w',(Builtin.copy_ #[T,T] o.type #[vv r xs.length,.slice q ys.length cc]).run P w=.ok (goInt (Nat.min ys.length xs.length)) w'∧cE X (pre++(vo f e r (ys.take xs.length++xs.drop ys.length)++post)) Φ w':=by
  obtain ⟨rq,rk,t⟩:=r
  by_cases h0:Nat.min ys.length xs.length=0
  ·refine ⟨w,by rw [h0];exact C1n hT h0,?_⟩
   have e:ys.take xs.length++xs.drop ys.length=xs:=by
    rcases Nat.eq_zero_or_pos xs.length with v | v
    ·have:=List.eq_nil_of_length_eq_zero v;subst this;simp
    ·have a8:ys.length=0:=by have h1:min ys.length xs.length=0:=h0;omega
     have:=List.eq_nil_of_length_eq_zero a8;subst this;simp
   rw [e];exact s
  ·have a9:¬ min ys.length xs.length=0:=h0
   cases rq with
   | none =>
    have h9:xs.length=0∧rk=0:=a6
    omega
   | some b =>
    obtain ⟨p,hp⟩:=s
    have s:cE X (pre++(vo f e ⟨some b,rk,t⟩ xs++post)) Φ w:=⟨p,hp⟩
    have g:=hq p hp.facts
    cases q with
    | none=>have h9:ys=[]:=g;subst h9;simp at a9
    | some a =>
     have k:A8y p a (ys.flatMap f):=g
     have hg:w.heap[b]?=some (.cells (xs.flatMap f++t).toArray e (0,0)):=(hp.own.1 (bx b (xs.flatMap f++t) e) (List.mem_append_right _ (List.mem_append_left _ (by unfold vo;simp)))).1
     have l:((ys.take xs.length).flatMap f).length=Nat.min ys.length xs.length * sz:=by rw [G3 z,List.length_take,Nat.min_comm]
     have d:=C6v (P:=P) (ty:=o.type) (b:=b) (off:=0) (dLen:=xs.length) (dCap:=rk) (sLen:=ys.length) (sCap:=cc) (a:=a) (w:=w) (cs:=xs.flatMap f++t) (us:=(ys.take xs.length).flatMap f) hT hg l
      (fun j u hj=>k.cell hp.sub (by
       rw [B7z z,List.getElem?_take] at hj
       split at hj
       ·exact hj
       ·cases hj)) (B9f a7 _) (by rw [l,List.length_append,G3 z];have:Nat.min ys.length xs.length≤xs.length:=Nat.min_le_right _ _;have:=Nat.mul_le_mul_right sz this;omega)
     have i:=D8o z xs (ys.take xs.length) t 0 (by rw [List.length_take];omega)
     rw [Nat.zero_mul,List.take_zero,List.nil_append,Nat.zero_add] at i
     have hd:xs.drop (ys.take xs.length).length=xs.drop ys.length:=by
      rw [List.length_take]
      by_cases h:ys.length≤xs.length
      ·rw [Nat.min_eq_right h]
      ·rw [Nat.min_eq_left opx,List.drop_of_length_le (Nat.le_refl _),List.drop_of_length_le opx]
     rw [hd] at i
     rw [i] at d
     exact ⟨_,d,s.vec (ys:=ys.take xs.length++xs.drop ys.length)⟩
 refine A8v (by rw [ho];rfl) ?_
 unfold Oper.wp
 rw [show (execOp ac.eval o).run P w=.ok (.value (goInt (Nat.min ys.length xs.length))) w' by
  simp [execOp,ho,resolve,hc,a2,a3,D0 hs.has hx,D0 hs.has hy,invoke,builtin,d]]
 exact hk () _ hw'
theorem E5d {o:Oper} {c:Call} {T e sz:Nat} {x y:Operand} {α:Type} {f:α→List Value} {r:VR} {xs:List α} {l h dn dk:Nat} {pre post:Own} (hT:SlTy P T e sz) (hf:∀ x,(f x).length=sz) (a7:∀ x,(f x).all (·.oneCell')=true)
  (ho:o.op=.call c) (hc:c.callee=.builtin .copy) (a2:c.args=#[x,y]) (a3:c.argTypes=#[T,T]) (hx:ev E x=some (.slice (B2x (va r.q) l sz r.k) dn dk)) (hy:ev E y=some (.slice (va r.q) h r.k)) (hL:L=pre++(vo f e r xs++post)) (v:bT sz xs.length r) (h1:l+dn=xs.length) (h2:h≤xs.length) :
  Tri P n X o E L Φ Unit (fun _=>.int .i64 ((min h dn:Nat):Int)) (fun _=>pre++(vo f e r (xs.take l++(xs.take (min h dn)++xs.drop (l+min h dn)))++post)) (fun _=>Φ):=by
 intro ac w K Q hs hk
 have t:=hs.world
 rw [hL] at t
 obtain ⟨w',d,hw'⟩:∃ w',(Builtin.copy_ #[T,T] o.type #[.slice (B2x (va r.q) l sz r.k) dn dk,.slice (va r.q) h r.k]).run P w=.ok (goInt (Nat.min h dn)) w'∧cE X (pre++(vo f e r (xs.take l++((xs.take (Nat.min h dn))++xs.drop (l+Nat.min h dn)))++post)) Φ w':=by
  obtain ⟨rq,m,s⟩:=r
  by_cases h0:Nat.min h dn=0
  ·refine ⟨w,by rw [h0];exact C1n hT h0,?_⟩
   rw [h0,List.take_zero,List.nil_append,Nat.add_zero,List.take_append_drop];exact t
  ·have am:¬ min h dn=0:=h0
   cases rq with
   | none =>
    have h9:xs.length=0∧m=0:=v
    omega
   | some b =>
    obtain ⟨p,hp⟩:=t
    have t:cE X (pre++(vo f e ⟨some b,m,s⟩ xs++post)) Φ w:=⟨p,hp⟩
    have a9:xs.length * sz+s.length=m * sz∧xs.length≤m∧m≤maxLen:=v
    have a0:B2x (va (some b)) l sz m=some ⟨b,l * sz,none⟩:=by
     unfold B2x
     rw [if_neg opx]
     simp [va,A1o]
    have hg:w.heap[b]?=some (.cells (xs.flatMap f++s).toArray e (0,0)):=(hp.own.1 (bx b (xs.flatMap f++s) e) (List.mem_append_right _ (List.mem_append_left _ (by unfold vo;simp)))).1
    have aa:Nat.min h dn≤h:=Nat.min_le_left _ _
    have a4:Nat.min h dn≤dn:=Nat.min_le_right _ _
    have g:((xs.take (Nat.min h dn)).flatMap f).length=Nat.min h dn * sz:=by rw [G3 hf,List.length_take,Nat.min_eq_left opx]
    have d:=C6v (P:=P) (ty:=o.type) (b:=b) (off:=l * sz) (dLen:=dn) (dCap:=dk) (sLen:=h) (sCap:=m) (a:=⟨b,0,none⟩) (w:=w) (cs:=xs.flatMap f++s) (us:=(xs.take (Nat.min h dn)).flatMap f) hT hg g
     (fun j u z=>by
      rw [A1o]
      simp only [World.cell?,hg,Nat.zero_add]
      rw [B7z hf,List.getElem?_take] at z
      split at z
      ·rw [List.getElem?_toArray,List.getElem?_append_left (List.getElem?_eq_some_iff.1 z).1];exact z
      ·cases z) (B9f a7 _) (by rw [g,List.length_append,G3 hf,← Nat.add_mul];have:=Nat.mul_le_mul_right sz (show l+Nat.min h dn≤xs.length by omega);omega)
    have i:=D8o hf xs (xs.take (Nat.min h dn)) s l (by rw [List.length_take,Nat.min_eq_left opx];omega)
    rw [List.length_take,Nat.min_eq_left (by omega:Nat.min h dn≤xs.length)] at i
    rw [i] at d
    rw [a0]
    exact ⟨_,d,t.vec (ys:=xs.take l++((xs.take (Nat.min h dn))++xs.drop (l+Nat.min h dn)))⟩
 refine A8v (by rw [ho];rfl) ?_
 unfold Oper.wp
 rw [show (execOp ac.eval o).run P w=.ok (.value (goInt (Nat.min h dn))) w' by
  simp [execOp,ho,resolve,hc,a2,a3,D0 hs.has hx,D0 hs.has hy,invoke,builtin,d]]
 exact hk () _ hw'
end
structure Rwq where
 s:Slc
 b:Bool
def A6e (r:Rwq):List Value:=[.slice r.s.q r.s.n r.s.k,.bool r.b]
theorem D5y {α:Type} {c:α→List Value} {T:Nat}:vo c T VR.nil ([]:List α)=[]:=rfl
def B6s (P:Program) (gf:FuncId) (a:List Value) (L1:Own) (Φ0:List Pers) {α:Type} (c:α→List Value) (xs:List (List α)):Prop :=
 HasBody P gf∧∀ (l:Nat) (w:World) (h:Hp) (I:List (List α)→Own→List Pers→Prop) (Ix:Own→List Pers→Prop) (L:Own) (Φ:List Pers),I xs L Φ→(∀ q ∈ Φ0,q.p h)→(∀ q ∈ Φ,q.p h)→h.sub w→A3j (L1++L) h w →
  (∀ x rest L Φ q k,x.length≤k→x.length≤9223372036854775807→I (x::rest) L Φ→B4i P l (.slice q x.length k) L (sl c q x::Φ) fun b L' Φ'=>if b then I rest L' Φ' else Ix L' Φ') →
  Calls P gf (#[.func (.yield l) #[] #[]]++a.toArray) w fun e w'=>(∃ v,e=.returned v)∧∃ L' Φ',(I [] L' Φ'∨Ix L' Φ')∧cE (cx w h ((L1++L).map Prod.fst)) L' Φ' w'
section
variable {P:Program} {n:Nat} {X:Cx} {K:Act→World→Prop} {Q:Exit→Act→World→Prop} {E E':bY} {L L':Own} {Φ Φ':List Pers}
theorem C2q {gf:FuncId} {g:Func} {c:Code} {a:List Value} {Φ0:List Pers} {α:Type} {cc:α→List Value} {xs:List (List α)} (L1:Own)
  (o : P.funcs[gf]? = some g) (hb : g.body = some c) (m : (g.name == "runtime.NumGoroutine") = false) (s : g.ntmps = n) (j : Nat.ble (a.length + 1) n = true) (E0 : Nat → bY) (hE : ∀ l, O1 ((List.range (a.length + 1)).zip (.func (.yield l) #[] #[] :: a)) (E0 l))
  (h:∀ (X:Cx) (l:Nat) (I:List (List α)→Own→List Pers→Prop) (Ix:Own→List Pers→Prop) (L:Own) (Φ:List Pers),X.M=(L1++L).map Prod.fst→X.rho=none→X.D=[]→I xs L Φ →
   (∀ x rest L Φ q k,x.length≤k→x.length≤9223372036854775807→I (x::rest) L Φ→B4i P l (.slice q x.length k) L (sl cc q x::Φ) fun b L' Φ'=>if b then I rest L' Φ' else Ix L' Φ')→J P n X c (D4n P X g fun L' Φ'=>I [] L' Φ'∨Ix L' Φ') (E0 l) (L1++(L++[])) (Φ0++Φ)):B6s P gf a L1 Φ0 cc xs:=by
 refine ⟨⟨by simp [o,hb,m]⟩,fun l w p I Ix L Φ hI hΦ0 hΦ hs ho hy=>?_⟩
 have f:(#[.func (.yield l) #[] #[]]++a.toArray:Array Value)=(Value.func (.yield l) #[] #[]::a).toArray:=by simp
 rw [f]
 simp only [List.append_nil] at h
 refine (callsIn_wide).1 (callsIn_of_wp_marks o hb trivial (h (cx w p _) l I _ L _ rfl rfl rfl hI hy _ w ⟨?_,rfl,?_,p,⟨?_,hs,Hp.le_refl p,fun b hb=>.inl hb,ho,fun e u=>.inl (List.mem_map_of_mem u),KeptBut.refl _ w,fun d t=>(by cases t)⟩⟩))
 ·have r:a.length+1≤n:=Nat.le_of_ble_eq_true j
  simp [s];omega
 ·rw [s]
  exact B6w (args:=Value.func _ _ _::a) j (hE l)
 ·intro q i
  rcases List.mem_append.1 i with i | i
  ·exact hΦ0 q i
  ·exact hΦ q i
theorem E0j {g:Operand} {p:Nat} {ps:Array Tmp} {assign body:Code} {gf:FuncId} {lb:List Value} {Φ0:List Pers} {α:Type} {cc:α→List Value} {xs:List (List α)}
  (ai:X.rho=none) (hg:ev E g=some (.func (.func gf) #[] lb.toArray)) {L1:Own} (ao:B6s P gf lb L1 Φ0 cc xs) (hΦ0:A7 Φ Φ0) (b1:ps=#[p]) (b2:Y5 n (some p)=true)
  {σ:Type} (I:List (List α)→σ→Prop) (Jx:Code→σ→Prop) (Lk:σ→Own) (Φk:σ→List Pers) (s0:σ) (h0:I xs s0) (hL:(Lk s0++L1).Sublist L) (hΦ:A7 Φ (Φk s0))
  (a8:∀ x rest s q k,x.length≤k→x.length≤9223372036854775807→I (x::rest) s→∀ (Y Y':Cx) (K:Act→World→Prop),Y.rho.isSome=true →
   (∀ E L Φ,J P n Y' body (RP Y' I Jx Lk Φk rest) E L Φ→JQ n Y K E L Φ)→J P n Y assign (Exit.then K (fun _ _ _=>False)) (bY.put E (some p) (.slice q x.length k)) (Lk s) (sl cc q x::Φk s))
  (a7:∀ d s,d ∉ X.D.map Prod.fst→I [] s→JQ n (X.wd ((d,.deferred (some []))::X.D)) (Q .normal) E (Lk s) (Φk s))
  (ak:∀ d c s,d ∉ X.D.map Prod.fst→Jx c s→J P n (X.wd ((d,.deferred (some []))::X.D)) c Q E (Lk s) (Φk s)):J P n X (.rangeFunc g ps assign body) Q E L Φ:=by
 intro a w hs
 subst b1
 rw [ai]
 refine wpIn_rangeFunc ?_
 intro fn _
 obtain ⟨f,hrec⟩:∃ f:LoopState→Option Code→Loop,f=fun z pe=>{state:=z,pending:=pe,fn,tmps:=a.tmps,params:=#[p],assign,body,defers:=w.heap.size}:=⟨_,rfl⟩
 have he:=run_enterLoop_outer (P:=P) (w:=w) fn a.tmps #[p] assign body
 rw [show ({state:=.ready,pending:=none,fn:=fn,tmps:=a.tmps,params:=#[p],assign:=assign,body:=body,defers:=w.heap.size}:Loop)=f .ready none by rw [hrec]] at he
 obtain ⟨w1,hw1⟩:∃ w1,(w.alloc (.deferred (some []))).alloc (.loop (f .ready none))=w1:=⟨_,rfl⟩
 rw [hw1] at he
 refine ⟨_,[B8t _],_,{target:=.fn (.func gf) lb.toArray,args:=#[.func (.yield (w.heap.size+1)) #[] #[]]},w1,gf,
  #[.func (.yield (w.heap.size+1)) #[] #[]]++lb.toArray,w1,he,?_,fun _ _=>trivial,?_,A7w,?_⟩
 ·simp only [resolve,D0 hs.has hg]
  simp [go_sem]
 ·simp [invoke,A1f ao.1]
 ·-- the caller's state,the two blocks laid
  have aj:cE X ((w.heap.size+1,.loop (f .ready none))::(w.heap.size,.deferred (some []))::(Lk s0++L1)) Φ w1:=by
   have h1:=(hs.world.sub hL).alloc (.deferred (some []))
   have h2:=h1.alloc (.loop (f .ready none))
   rw [World.size_alloc,hw1] at h2
   exact h2
  have ap:w.heap.size ∉ X.D.map Prod.fst:=fun hm=>by
   obtain ⟨e,ad,hE⟩:=List.mem_map.1 hm
   obtain ⟨q,hq⟩:=hs.world
   have:=(Array.getElem?_eq_some_iff.1 (hq.res e ad).1).1
   omega
  have av:=aj.perm (L':=L1++((w.heap.size+1,.loop (f .ready none))::(w.heap.size,.deferred (some []))::Lk s0)) (List.perm_append_comm (l₁:=(w.heap.size+1,Obj.loop (f .ready none))::(w.heap.size,Obj.deferred (some []))::Lk s0))
  obtain ⟨q,hq⟩:=av
  let It:List (List α)→Own→List Pers→Prop:=fun rem L Φ=>∃ s,I rem s∧L=(w.heap.size+1,.loop (f .ready none))::(w.heap.size,.deferred (some []))::Lk s∧Φ=Φk s
  let Itx:Own→List Pers→Prop:=fun L Φ=>∃ c s,Jx c s∧L=(w.heap.size+1,.loop (f .done (some c)))::(w.heap.size,.deferred (some []))::Lk s∧Φ=Φk s
  have af:=ao.2 (w.heap.size+1) w1 q It Itx _ (Φk s0) ⟨s0,h0,rfl,rfl⟩ (hΦ0 q hq.facts) (hΦ q hq.facts) hq.sub hq.own ?_
  ·refine B4n (af.mono fun e w' hx=>?_)
   obtain ⟨⟨v,rfl⟩,L',Φ',hI,b0⟩:=hx
   have am:=cE.call (L0:=L1++((w.heap.size+1,.loop (f .ready none))::(w.heap.size,.deferred (some []))::Lk s0)) (L2:=[]) hq oom b0
   rw [List.append_nil] at am
   have m:∀ (z:LoopState) (pe:Option Code) (s:σ),z≠.busy→L'=(w.heap.size+1,.loop (f z pe))::(w.heap.size,.deferred (some []))::Lk s→Φ'=Φk s →
     (Instr.endLoop (w.heap.size+1)).run P w'=.ok pe (w'.putObj (w.heap.size+1) (.loop {f z pe with state:=.exhausted})) ∧
     St n (X.wd ((w.heap.size,.deferred (some []))::X.D)) E (Lk s) (Φk s) {a with defers:=[B8t w.heap.size]++a.defers} (w'.putObj (w.heap.size+1) (.loop {f z pe with state:=.exhausted})):=fun z pe s aj u hΦ'=>by
    subst u hΦ'
    obtain ⟨q2,hq2⟩:=am
    have hl:=(hq2.own.1 _ (List.mem_cons_self ..)).1
    simp only at hl
    have i:=run_endLoop (P:=P) hl (by rw [hrec];exact aj)
    rw [hrec] at i ⊢
    refine ⟨i,⟨hs.size,?_,hs.has,?_⟩⟩
    ·show [B8t w.heap.size]++a.defers=_
     rw [hs.defers]
     unfold Cx.marks Cx.wd
     simp only [ai];rfl
    ·have y:cE X ((w.heap.size,.deferred (some []))::Lk s) (Φk s++Φ) (w'.putObj (w.heap.size+1) (.loop {f z pe with state:=.exhausted})):=by
      have h4:=cE.reserve (X:=X) ⟨q2,hq2⟩
      have aa:=hq2.own.2
      have h5:=cE.take (X:=X) (d:=(w.heap.size+1,.loop (f z pe))) (ds:=X.D) ?_ (.loop {f z pe with state:=.exhausted}) h4
      ·exact h5
      ·intro hm
       obtain ⟨e,ad,hE⟩:=List.mem_map.1 hm
       obtain ⟨q3,hq3⟩:=hs.world
       have:=(Array.getElem?_eq_some_iff.1 (hq3.res e ad).1).1
       simp only at hE;omega
     rw [hrec] at y
     exact y.reserve.foll fun p hp q hq=>hp q (List.mem_append_left _ hq)
   rcases hI with ⟨s,hI,u,hΦ'⟩ | ⟨c,s,hI,u,hΦ'⟩
   ·obtain ⟨i,ac⟩:=m .ready none s oom u hΦ'
    exact ⟨_,_,i,a7 _ s ap hI _ _ ac⟩
   ·obtain ⟨i,ac⟩:=m .done (some c) s oom u hΦ'
    have h6:=ak _ c s ap hI _ _ ac
    have:(X.wd ((w.heap.size,.deferred (some []))::X.D)).rho=none:=ai
    rw [this] at h6
    exact ⟨_,_,i,h6⟩
  ·-- one round
   rintro x rest L0 Φ0 qx kx hqx hqx2 ⟨s,hIs,rfl,rfl⟩ wr hr hfr hsr hor
   have hl:=(hor.1 _ (List.mem_cons_self ..)).1
   simp only at hl
   have hy:=run_yield (P:=P) (args:=#[.slice qx x.length kx]) hl (by rw [hrec];rfl)
   rw [hrec] at hy
   refine ⟨_,_,assign,body,hy,roundIn_of_wpIn trivial ?_⟩
   let M0:List Nat:=(w.heap.size+1)::w.heap.size::(Lk s).map Prod.fst
   let Y:Cx:=⟨wr,hr,M0,some (w.heap.size+1),[(w.heap.size+1,.loop (f .ready none)),(w.heap.size,.deferred (some []))]⟩
   let Y':Cx:=⟨wr,hr,M0,some (w.heap.size+1),[(w.heap.size+1,.loop {f .ready none with state:=.busy}),(w.heap.size,.deferred (some []))]⟩
   have hb:=a8 x rest s qx kx hqx hqx2 hIs Y Y' (fun a₁ w₁=>∃ w₂,(Instr.beginRound (w.heap.size+1)).run P w₁=.ok () w₂∧body.wpIn (Fence.wide.inRound (w.heap.size+1)) 0 P
    (roundPost P (w.heap.size+1) fun e w'=>∃ b L' Φ',e=.returned (.bool b)∧(if b then It rest L' Φ' else Itx L' Φ')∧cE (cx wr hr M0) L' Φ' w') a₁ w₂) rfl ?_
   ·refine hb _ _ ⟨?_,rfl,?_,_,⟨hfr,hsr,Hp.le_refl _,fun b hb=>.inl hb,hor.sub ((List.sublist_cons_self _ _).trans (List.sublist_cons_self _ _)),fun e he=>.inl ?_,KeptBut.refl _ _,fun d hd=>?_⟩⟩
    ·have:a.tmps.size=n:=hs.size
     simp [this]
    ·have:=hs.has.put (d:=p) (by rw [hs.size];simpa [Y5,Nat.blt_eq] using b2) (.slice qx x.length kx)
     exact fun t v e=>by simpa [Act.put] using this t v e
    ·exact List.mem_cons_of_mem _ (List.mem_cons_of_mem _ (List.mem_map_of_mem he))
    ·have aa:=hor.2
     simp only [List.map_cons,List.nodup_cons,List.mem_cons,not_or] at aa
     simp only [Y,List.mem_cons,List.not_mem_nil,or_false] at hd
     rcases hd with rfl | rfl
     ·exact ⟨hl,(hor.1 _ (List.mem_cons_self ..)).2,fun e he hE=>aa.1.2 (by simp only at hE;rw [← hE];exact List.mem_map_of_mem he),.inr (by simp [Y,M0])⟩
     ·have h1:=hor.1 _ (List.mem_cons_of_mem _ (List.mem_cons_self ..))
      exact ⟨h1.1,h1.2,fun e he hE=>aa.2.1 (by simp only at hE;rw [← hE];exact List.mem_map_of_mem he),.inr (by simp [Y,M0])⟩
   ·-- the record turns to busy;the body;the record turns back
    intro E1 L3 Φ1 hJ a1 w2 hs1
    obtain ⟨q1,hq1⟩:=hs1.world
    have an:=(hq1.res (w.heap.size+1,.loop (f .ready none)) (by simp [Y])).1
    simp only at an
    refine ⟨_,run_beginRound an (by rw [hrec]),?_⟩
    have aq:cE Y' L3 Φ1 (w2.putObj (w.heap.size+1) (.loop {f .ready none with state:=.busy})):=by
     have:=cE.reput (X:=Y) (d:=w.heap.size+1) (o:=.loop (f .ready none)) (o':=.loop {f .ready none with state:=.busy}) (ds:=[(w.heap.size,.deferred (some []))]) oom hs1.world
     exact this
    have ae:=hJ a1 _ ⟨hs1.size,hs1.defers,hs1.has,aq⟩
    refine Code.wpIn_mono (fun e a2 w3 hp=>?_) ae
    have ah:∀ (j:Option Code) (l:σ),cE Y' (Lk l) (Φk l) w3 →
      (Instr.endRound (w.heap.size+1) j).run P w3=.ok (.bool j.isNone) (w3.putObj (w.heap.size+1) (.loop (f (if j.isNone then .ready else .done) j))) ∧
      cE (cx wr hr M0) ((w.heap.size+1,.loop (f (if j.isNone then .ready else .done) j))::(w.heap.size,.deferred (some []))::Lk l) (Φk l) (w3.putObj (w.heap.size+1) (.loop (f (if j.isNone then .ready else .done) j))):=fun j l y=>by
     obtain ⟨q3,hq3⟩:=y
     have au:=(hq3.res (w.heap.size+1,.loop {f .ready none with state:=.busy}) (by simp [Y'])).1
     simp only at au
     have i:=run_endRound (P:=P) j au
     refine ⟨by rw [hrec] at i ⊢;exact i,?_⟩
     have h4:=cE.reput (X:=Y') (d:=w.heap.size+1) (o:=.loop {f .ready none with state:=.busy}) (o':=.loop (f (if j.isNone then .ready else .done) j)) (ds:=[(w.heap.size,.deferred (some []))]) oom ⟨q3,hq3⟩
     exact cE.unres oom h4
    cases e with
    | normal =>
     obtain ⟨l,r,y⟩:=hp
     obtain ⟨i,h4⟩:=ah none l y
     exact ⟨_,_,i,true,_,_,rfl,⟨l,r,rfl,rfl⟩,h4⟩
    | ret =>
     obtain ⟨l,r,y⟩:=hp
     obtain ⟨i,h4⟩:=ah (some .ret) l y
     exact ⟨_,_,i,false,_,_,rfl,⟨.ret,l,r,rfl,rfl⟩,h4⟩
    | exit id =>
     obtain ⟨l,r,y⟩:=hp
     obtain ⟨i,h4⟩:=ah (some (.exit id)) l y
     exact ⟨_,_,i,false,_,_,rfl,⟨.exit id,l,r,rfl,rfl⟩,h4⟩
    | goto t=>exact hp.elim
    | panic c=>exact hp.elim
    | outgrown=>exact hp.elim
theorem D4c {g:Operand} {p:Nat} {ps:Array Tmp} {a f:Code} {gf:FuncId} {t:List Value} {Φ0:List Pers} {α:Type} {cc:α→List Value} {xs:List (List α)}
  (l:X.rho=none) (v:ev E g=some (.func (.func gf) #[] t.toArray)) (r:B6s P gf t [] Φ0 cc xs) (hΦ0:A7 Φ Φ0) (m:ps=#[p]) (o:Y5 n (some p)=true)
  {σ:Type} (I:List (List α)→σ→Prop) (Jx:Code→σ→Prop) (Lk:σ→Own) (Φk:σ→List Pers) (j:σ) (u:I xs j) (hL:(Lk j).Sublist L) (hΦ:A7 Φ (Φk j))
  (e:∀ x rest s q k,x.length≤k→x.length≤9223372036854775807→I (x::rest) s→∀ (Y Y':Cx) (K:Act→World→Prop),Y.rho.isSome=true →
   (∀ E L Φ,J P n Y' f (RP Y' I Jx Lk Φk rest) E L Φ→JQ n Y K E L Φ)→J P n Y a (Exit.then K (fun _ _ _=>False)) (bY.put E (some p) (.slice q x.length k)) (Lk s) (sl cc q x::Φk s))
  (b:∀ d s,d ∉ X.D.map Prod.fst→I [] s→JQ n (X.wd ((d,.deferred (some []))::X.D)) (Q .normal) E (Lk s) (Φk s))
  (i:∀ d c s,d ∉ X.D.map Prod.fst→Jx c s→J P n (X.wd ((d,.deferred (some []))::X.D)) c Q E (Lk s) (Φk s)):J P n X (.rangeFunc g ps a f) Q E L Φ :=
 E0j l v r hΦ0 m o I Jx Lk Φk j u (by rw [List.append_nil];exact hL) hΦ e b i
end
structure Rwc (α:Type) where
 l:List α
 b:Bool
def A1n {α:Type} (c:α→List Value) (rs:List Rwq) (xss:List (Rwc α)):Pers:=D5 c (rs.map Rwq.s) (xss.map Rwc.l)
def Q4 {α:Type} (rs:List Rwq) (xss:List (Rwc α)):Prop:=rs.length=xss.length∧B4 (rs.map Rwq.s) (xss.map Rwc.l)∧rs.map Rwq.b=xss.map Rwc.b
abbrev zwq:Rwq:=⟨⟨none,0,0⟩,false⟩
abbrev zwc {α:Type}:Rwc α:=⟨[],false⟩
theorem B2d {α β:Type} (f:α→β) (xs:List α) (k:Nat) (d:α):(xs.map f).getD k (f d)=f (xs.getD k d):=by
 simp only [List.getD_eq_getElem?_getD,List.getElem?_map]
 cases xs[k]?<;>rfl
section
variable {P:Program} {n:Nat} {X:Cx} {K:Act→World→Prop} {Q:Exit→Act→World→Prop} {E E':bY} {L L':Own} {Φ Φ':List Pers} {α:Type} {c:α→List Value} {rs rs':List Rwq} {xss xss':List (Rwc α)}
theorem F0y (a:Q4 rs xss) {k:Nat} (h:k<rs.length):(xss.getD k zwc).l.length≤(rs.getD k zwq).s.k∧(xss.getD k zwc).l.length≤9223372036854775807:=by
 have:=V9 a.2.1 (k:=k) (d:=(⟨none,0,0⟩:Slc)) (by simpa using h)
 rw [← B2d Rwc.l,← B2d Rwq.s];exact this
theorem q_n (a:Q4 rs xss) {k:Nat} (h:k<rs.length):(rs.getD k zwq).s.n=(xss.getD k zwc).l.length:=by
 have:=U4 a.2.1 (k:=k) (d:=(⟨none,0,0⟩:Slc)) (by simpa using h)
 rw [show (⟨none,0,0⟩:Slc)=zwq.s from rfl,B2d Rwq.s,show ([]:List α)=(zwc:Rwc α).l from rfl,B2d Rwc.l] at this
 injection this
theorem F6h (a:Q4 rs xss) (k:Nat):(rs.getD k zwq).b=(xss.getD k zwc).b:=by
 rw [← B2d Rwq.b,← B2d Rwc.b,a.2.2]
theorem F4v (a:Q4 rs xss) {k:Nat} (h:k<rs.length):(Value.agg #[.slice (rs.getD k zwq).s.q (rs.getD k zwq).s.n (rs.getD k zwq).s.k,.bool (rs.getD k zwq).b])=.agg #[.slice (rs.getD k zwq).s.q (xss.getD k zwc).l.length (rs.getD k zwq).s.k,.bool (xss.getD k zwc).b]:=by rw [q_n a h,F6h a k]
theorem F5l (b:Q4 rs xss) (j:Nat) (a:Φ[j]?=some (A1n c rs xss)) {k:Nat} (h:k<rs.length):V3 Φ (sl c (rs.getD k zwq).s.q (xss.getD k zwc).l):=by
 have:=V8 b.2.1 j a (k:=k) (d:=(⟨none,0,0⟩:Slc)) (by simpa using h)
 rw [← B2d Rwc.l,← B2d Rwq.s];exact this
theorem B9e:V3 Φ (A1n c [] []):=H9
theorem F4a (k:Nat) {r:Rwq} {x:Rwc α} (a:V3 Φ (A1n c rs xss)) (b:V3 Φ (sl c r.s.q x.l)):V3 Φ (A1n c (rs.set k r) (xss.set k x)):=by
 unfold A1n;rw [List.map_set,List.map_set];exact D8m k a b
theorem F4q {m:Nat}:V3 Φ (A1n c (List.replicate m zwq) (List.replicate m zwc)):=by
 unfold A1n;rw [List.map_replicate,List.map_replicate];exact E5n
theorem Q4.none:Q4 [] ([]:List (Rwc α)):=⟨rfl,B4.none,rfl⟩
theorem Q4.cons {r:Rwq} {x:Rwc α} (c:r.s.n=x.l.length∧r.s.n≤r.s.k∧x.l.length≤9223372036854775807) (hb:r.b=x.b) (a:Q4 rs xss):Q4 (r::rs) (x::xss):=⟨by simp [a.1],B4.cons c a.2.1,by simp [hb,a.2.2]⟩
theorem Q4.append (a:Q4 rs xss) (b:Q4 rs' xss'):Q4 (rs++rs') (xss++xss'):=⟨by simp [a.1,b.1],by rw [List.map_append,List.map_append];exact B4.append a.2.1 b.2.1,by rw [List.map_append,List.map_append,a.2.2,b.2.2]⟩
theorem Q4.set (h:Q4 rs xss) (k:Nat) {r:Rwq} {x:Rwc α} (hr:r.s.n=x.l.length∧r.s.n≤r.s.k∧x.l.length≤9223372036854775807) (hb:r.b=x.b):Q4 (rs.set k r) (xss.set k x):=⟨by simp [h.1],by rw [List.map_set,List.map_set];exact B4.set h.2.1 k hr,by rw [List.map_set,List.map_set,h.2.2,hb]⟩
theorem Q4.rep (m:Nat):Q4 (List.replicate m zwq) (List.replicate m (zwc:Rwc α)):=⟨by simp,by rw [List.map_replicate,List.map_replicate];exact B4.rep m,by simp⟩
theorem E4o {o:Oper} {T e b l cc:Nat} {x y:Operand} (m:ApTy P T e 2 b) (p:((P.info? e).bind (·.zero)).map (·.cells)=some #[.slice none 0 0,.bool false])
  (g:o.op=.makeSlice T x y) (i:ev E x=some (.int .i64 (l:Int))) (h:ev E y=some (.int .i64 (cc:Int))) (c:l≤cc) (hb:cc * b≤140737488355328) (d:cc≤9223372036854775807) :
  Tri P n X o E L Φ {a:VR // bT 2 (List.replicate l (zwc:Rwc α)).length a} (fun a=>.slice (va a.1.q) (List.replicate l (zwc:Rwc α)).length a.1.k) (fun a=>L++(vo A6e e a.1 (List.replicate l zwq)++[])) (fun _=>Φ):=by
 have:=C3v (P:=P) (n:=n) (X:=X) (E:=E) (L:=L) (Φ:=Φ) (f:=A6e) zwq m p (fun _=>rfl) g i h c hb d
 have j:(List.replicate l (zwc:Rwc α)).length=(List.replicate l zwq).length:=by simp
 rw [j]
 exact this
theorem D8f {t T sz b TT:Nat} {us:List Value} (c:Ty P T sz true) (h:E.lookup t=some (.pointer (some ⟨b,0,none⟩))) (i:Nat) (hL:L[i]?=some (bx b us TT)) (a:us.length=sz) :
  C4h P n X (.cell t T) E L Φ (.agg us.toArray):=F0 c h i hL (by rw [List.drop_zero,← a,List.take_length]) a
end
def E9k (n:Nat) (ops:Array Oper) (T mo:Nat) (a:TypeDesc) (E:bY):Nat→Nat→Nat→List MapEntry→Option (List MapEntry)
 | 0,_,_,es=>some es
 | k+1,i,clk,es=>match C4j n ops i E with
  | none=>none
  | some o=>match o.dst,o.op with
   | none,.insert T' (.tmp t) kk vv=>match Nat.beq T' T&&Nat.beq t mo,ev E kk,ev E vv with
    | true,some kv,some v=>match Instr.findNow a kv es 0 with
     | some none=>E9k n ops T mo a E k (i+1) (clk+1) (es++[⟨kv,v,clk⟩])
     | _=>none
    | _,_,_=>none
   | _,_=>none
section
variable {P:Program} {n:Nat} {X:Cx} {K:Act→World→Prop} {Q:Exit→Act→World→Prop} {E:bY} {Φ:List Pers}
theorem E7z {ops:Array Oper} {T w e:Nat} {d:TypeDesc} {mo b m:Nat} {es':List MapEntry} (l:MapTy P T w e d) (f:E.lookup mo=some (.map (some b))) (ix:Nat):∀ (k i a:Nat) (es:List MapEntry) (L:Own),
  L[ix]?=some (b,.map es.toArray a)→E9k n ops T mo d E k i a es=some es'→JI P n X ops (i+k) m K Q E (L.set ix (b,.map es'.toArray (a+k))) Φ→JI P n X ops i (k+m) K Q E L Φ
 | 0,i,a,es,L,hi,h,g=>by
  simp only [E9k,Option.some.injEq] at h
  subst h
  rw [Nat.zero_add]
  have:L.set ix (b,.map es.toArray (a+0))=L:=by
   apply List.ext_getElem?
   intro j
   rw [List.getElem?_set]
   split
   ·rename_i x
    subst x
    split
    ·exact hi.symm
    ·rename_i z;rw [List.getElem?_eq_none opx]
   ·rfl
  rw [this] at g;exact g
 | k+1,i,a,es,L,hi,h,g=>by
  unfold E9k at h
  split at h
  ·cases h
  ·rename_i o r
   split at h
   ·rename_i T' t kk vv p c
    split at h
    ·rename_i s v hb u y
     split at h
     ·rename_i q
      rw [Bool.and_eq_true] at hb
      obtain rfl:=Nat.eq_of_beq_eq_true hb.1
      obtain rfl:=Nat.eq_of_beq_eq_true hb.2
      rw [Nat.add_right_comm]
      refine it r (F6 l (.inl c) f u y ix hi (by simpa using q) rfl) fun _=>?_
      rw [p]
      refine E7z l f ix k (i+1) (a+1) (es++[⟨s,v,a⟩]) _ ?_ h ?_
      ·rw [List.getElem?_set_self (by have:=(List.getElem?_eq_some_iff.1 hi).1;exact this)];simp
      ·rw [List.set_set,show i+1+k=i+(k+1) by omega,show a+1+k=a+(k+1) by omega];exact g
     ·cases h
    ·cases h
   ·cases h
end
end Go.Fen
namespace Go.Fen
open Go Go.RowKit Go.ChangeShapes
variable {P:Program}
section
variable {P:Program} {n:Nat} {X:Cx} {K:Act→World→Prop} {Q:Exit→Act→World→Prop} {E E':bY} {L L':Own} {Φ Φ':List Pers}
theorem B4.drop {α:Type} {rs:List Slc} {xss:List (List α)} (h:B4 rs xss) (k:Nat):B4 (rs.drop k) (xss.drop k):=⟨by simp [h.1],fun i r xs hr a=>h.2 (k+i) r xs (by simpa using hr) (by simpa using a)⟩
theorem B4.take {α:Type} {rs:List Slc} {xss:List (List α)} (h:B4 rs xss) (k:Nat):B4 (rs.take k) (xss.take k):=⟨by simp [h.1],fun i r xs hr a=>by
 rw [List.getElem?_take] at hr a
 split at hr
 ·rename_i b;rw [if_pos b] at a;exact h.2 i r xs hr a
 ·cases hr⟩
theorem Q4.drop {α:Type} {rs:List Rwq} {xss:List (Rwc α)} (h:Q4 rs xss) (k:Nat):Q4 (rs.drop k) (xss.drop k):=⟨by simp [h.1],by rw [List.map_drop,List.map_drop];exact h.2.1.drop k,by rw [List.map_drop,List.map_drop,h.2.2]⟩
theorem Q4.take {α:Type} {rs:List Rwq} {xss:List (Rwc α)} (h:Q4 rs xss) (k:Nat):Q4 (rs.take k) (xss.take k):=⟨by simp [h.1],by rw [List.map_take,List.map_take];exact h.2.1.take k,by rw [List.map_take,List.map_take,h.2.2]⟩
theorem Has.val {a:Act} (c:Has a E) {t:Nat} {v:Value} (d:E.lookup t=some v):Has a ((t,v)::E):=by
 intro b f e
 by_cases he:b=t
 ·subst he;simp [List.lookup] at e;subst e;exact c _ _ d
 ·have:(b == t)=false:=by simpa using he
  simp only [List.lookup,this] at e
  exact c _ _ e
end
section
variable {P:Program} {n:Nat} {X:Cx} {K:Act→World→Prop} {Q:Exit→Act→World→Prop} {E E':bY} {L L':Own} {Φ Φ':List Pers}
theorem f1h {q:Pers}:V3 (q::Φ) q:=A5 0 rfl
theorem f1t {q r:Pers} (h:V3 Φ q):V3 (r::Φ) q:=fun p a=>h p fun x b=>a x (List.mem_cons_of_mem _ b)
theorem sbm {α:Type} {e:α} {A B:List α} (h:List.Sublist A B):List.Sublist (e::A) (e::B):=h.cons_cons e
theorem sba {α:Type} {v A B:List α} (h:List.Sublist A B):List.Sublist (v++A) (v++B):=List.Sublist.append (List.Sublist.refl v) h
theorem sbs {α:Type} {e:α} {A B:List α} (h:List.Sublist A B):List.Sublist A (e::B):=h.cons e
theorem sbv {α:Type} {v A B:List α} (h:List.Sublist A B):List.Sublist A (v++B):=h.trans (List.sublist_append_right v B)
def E4w (e:Nat×Obj) (L L':Own):Prop:=L.Perm (e::L')
theorem re0 {e:Nat×Obj}:E4w e (e::L) L:=List.Perm.refl _
theorem re1 {e x:Nat×Obj} (h:E4w e L L'):E4w e (x::L) (x::L'):=(List.Perm.cons x h).trans (List.Perm.swap e x L')
theorem re2 {e:Nat×Obj} {v:Own} (h:E4w e L L'):E4w e (v++L) (v++L'):=(List.Perm.append_left v h).trans List.perm_middle
def E5e (v L L':Own):Prop:=L.Perm (v++L')
theorem rv0 {v:Own}:E5e v (v++L) L:=List.Perm.refl _
theorem rv1 {x:Nat×Obj} {v:Own} (h:E5e v L L'):E5e v (x::L) (x::L'):=(List.Perm.cons x h).trans List.perm_middle.symm
theorem rv2 {v u:Own} (h:E5e v L L'):E5e v (u++L) (u++L'):=(List.Perm.append_left u h).trans (C9p u v L')
def PkP (L L0 L2:Own):Prop:=L.Perm (L0++L2)
theorem pk0:PkP L [] L:=List.Perm.refl _
theorem pkc {e:Nat×Obj} {l L2:Own} (h:E4w e L L') (k:PkP L' l L2):PkP L (e::l) L2:=h.trans (List.Perm.cons e k)
theorem pkv {v l L2:Own} (h:E5e v L L') (k:PkP L' l L2):PkP L (v++l) L2:=by
 unfold PkP;rw [List.append_assoc];exact h.trans (List.Perm.append_left v k)
def SrP (M L:Own):Prop:=M.Perm L
def InP (v L L':Own):Prop:=(v++L).Perm L'
theorem sr0:SrP [] []:=List.Perm.refl _
theorem sr1 {e:Nat×Obj} {M:Own} (h:SrP M L):SrP (e::M) (e::L):=List.Perm.cons e h
theorem sr2 {v M:Own} (h:SrP M L) (k:InP v L L'):SrP (v++M) L':=(List.Perm.append_left v h).trans k
theorem sr3 {M:Own}:SrP M M:=List.Perm.refl _
theorem in1 {v:Own} {e:Nat×Obj} (h:InP v L L'):InP v (e::L) (e::L'):=List.perm_middle.trans (List.Perm.cons e h)
theorem in0 {v:Own}:InP v L (v++L):=List.Perm.refl _
theorem sr4 {M M':Own} (e:M=M') (h:SrP M' L):SrP M L:=e▸h
def C6x (n:Nat) (ops:Array Oper) (i:Nat) (E:bY):Option (FuncId×List Value×Option Nat) :=
 match C4j n ops i E with
 | some o=>match o.op with
  | .call c=>match c.callee with
   | .value fv=>match ev E fv,c.args.toList.mapM (ev E) with
    | some (.func (.func k) first cap),some vs=>some (k,(first++vs.toArray++cap).toList,o.dst)
    | _,_=>none
   | _=>none
  | _=>none
 | none=>none
theorem B0z {ops:Array Oper} {i:Nat} {k:FuncId} {args:List Value} {d:Option Nat} (h:C6x n ops i E=some (k,args,d)) :
  ∃ o c b first cap a,C4j n ops i E=some o∧o.op=.call c∧c.callee=.value b∧ev E b=some (.func (.func k) first cap)∧c.args.toList.mapM (ev E)=some a∧(first++a.toArray++cap).toList=args∧o.dst=d:=by
 unfold C6x at h
 split at h
 ·rename_i o f
  split at h
  ·rename_i c l
   split at h
   ·rename_i b e
    split at h
    ·rename_i m first cap a j g
     simp only [Option.some.injEq,Prod.mk.injEq] at h
     obtain ⟨rfl,rfl,rfl⟩:=h
     exact ⟨o,c,b,_,_,a,f,l,e,j,g,rfl,rfl⟩
    ·cases h
   ·cases h
  ·cases h
 ·cases h
theorem zv {ops:Array Oper} {i m:Nat} {k:FuncId} {args:List Value} {d:Option Nat} {Φ0:List Pers} {v:Value} (f:C6x n ops i E=some (k,args,d)) (a:J5 P k args Φ0 v)
  (h:JI P n X ops (i+1) m K Q (bY.put E d v) L Φ) (hΦ:A7 Φ Φ0:=by first|exact A7.nil|exact A7.refl|(repeat' first|with_reducible exact A7.nil|with_reducible refine A7.con1 ?_ ?_|with_reducible exact f1h|with_reducible refine f1t ?_|exact B0i|exact H9|exact B9e);done|(repeat' first|exact A7.nil|refine A7.con1 ?_ ?_|exact f1h|refine f1t ?_|exact B0i|exact H9|exact B9e)):JI P n X ops i (m+1) K Q E L Φ:=by
 obtain ⟨o,c,r,first,cap,q,b,l,e,g,j,p,rfl⟩:=B0z f
 exact ixc b (B6r a l e g j p hΦ) h
theorem zvd {ops:Array Oper} {i m:Nat} {k:FuncId} {args:List Value} {d:Option Nat} {Φ0:List Pers} {v:Value} (f:C6x n ops i E=some (k,args,d)) (a:J5 P k args Φ0 v)
  (h:JD P n X ops (i+1) m K (bY.put E d v) L Φ) (hΦ:A7 Φ Φ0:=by first|exact A7.nil|exact A7.refl|(repeat' first|with_reducible exact A7.nil|with_reducible refine A7.con1 ?_ ?_|with_reducible exact f1h|with_reducible refine f1t ?_|exact B0i|exact H9|exact B9e);done|(repeat' first|exact A7.nil|refine A7.con1 ?_ ?_|exact f1h|refine f1t ?_|exact B0i|exact H9|exact B9e)):JD P n X ops i (m+1) K E L Φ:=by
 obtain ⟨o,c,r,first,cap,q,b,l,e,g,j,p,rfl⟩:=B0z f
 exact ddc b (B6r a l e g j p hΦ) h
theorem ond {p:Prop} (h:p:=by first|(simp only [List.cons_append,List.nil_append,List.append_assoc];exact rfl)|exact rfl):p:=h
theorem zc {ops:Array Oper} {i m:Nat} {k:FuncId} {args:List Value} {d:Option Nat} {L0 L2:Own} {Φ0:List Pers} {α:Type} {val:α→Value} {L1:α→Own} {Φ1:α→List Pers} {L3:α→Own} {Φ3:α→List Pers}
  (g:C6x n ops i E=some (k,args,d)) (a:Con P k args L0 Φ0 α val L1 Φ1) (h:∀ x,JI P n X ops (i+1) m K Q (bY.put E d (val x)) (L3 x) (Φ3 x))
  (hL:PkP L L0 L2:=by repeat' first|with_reducible exact pk0|with_reducible apply pkc|with_reducible apply pkv|with_reducible exact re0|with_reducible exact rv0|with_reducible apply re1|with_reducible apply re2|with_reducible apply rv1|with_reducible apply rv2)
  (b:∀ x,SrP (L1 x++L2) (L3 x):=by
   intro _
   refine sr4 ond ?_
   repeat' first|with_reducible exact sr0|with_reducible apply sr1|with_reducible apply sr2|with_reducible apply in1|with_reducible exact in0|exact sr3)
  (hΦ:A7 Φ Φ0:=by first|exact A7.nil|exact A7.refl|(repeat' first|with_reducible exact A7.nil|with_reducible refine A7.con1 ?_ ?_|with_reducible exact f1h|with_reducible refine f1t ?_|exact B0i|exact H9|exact B9e);done|(repeat' first|exact A7.nil|refine A7.con1 ?_ ?_|exact f1h|refine f1t ?_|exact B0i|exact H9|exact B9e))
  (hΦ3:∀ x,Φ1 x++Φ=Φ3 x:=by intro _;first|exact List.nil_append _|(simp only [List.nil_append,List.cons_append];exact rfl)|exact rfl):JI P n X ops i (m+1) K Q E L Φ:=by
 obtain ⟨o,c,s,first,cap,r,e,p,f,j,l,q,rfl⟩:=B0z g
 obtain rfl:(fun x=>Φ1 x++Φ)=Φ3:=funext hΦ3
 exact it e (L6 a p f j l q hΦ hL L3 b) h
theorem bW {p:Prop} (h:p:=by first|omega|(simp only [List.length_take,List.length_drop,List.length_append,List.length_cons,List.length_nil,List.length_set,List.length_map,List.length_replicate];omega)|decide|assumption|(dsimp only;omega)):p:=h
abbrev un {α β ρ:Type} (f:α→β→ρ) (x:α×β):ρ:=match x with | (a,b)=>f a b
theorem bU {A B:Own} (h:List.Sublist A B:=by
   first
    | exact List.nil_sublist _
    | exact List.Sublist.refl _
    | (repeat' first | with_reducible exact List.nil_sublist _ | with_reducible exact List.Sublist.refl _ | with_reducible refine sbm ?_ | with_reducible refine sba ?_ | with_reducible refine sbs ?_ | with_reducible refine sbv ?_);done
    | (repeat' first | exact List.nil_sublist _ | exact List.Sublist.refl _ | refine sbm ?_ | refine sba ?_ | refine sbs ?_ | refine sbv ?_);done
    | (simp only [List.length_set];repeat' first | exact List.nil_sublist _ | exact List.Sublist.refl _ | refine sbm ?_ | refine sba ?_ | refine sbs ?_ | refine sbv ?_);done):List.Sublist A B:=h
theorem cB {A B:List Pers} (h:A7 A B:=by first|exact A7.nil|exact A7.refl|(repeat' first|with_reducible exact A7.nil|with_reducible refine A7.con1 ?_ ?_|with_reducible exact f1h|with_reducible refine f1t ?_|exact B0i|exact H9|exact B9e);done|(repeat' first|exact A7.nil|refine A7.con1 ?_ ?_|exact f1h|refine f1t ?_|exact B0i|exact H9|exact B9e)):A7 A B:=h
def F1m:Nat→List Value→bY
 | _,[]=>[]
 | i,v::l=>(i,v)::F1m (i+1) l
theorem C9c:∀ (xs:List Value) (k j:Nat),((List.range' k xs.length).zip xs).lookup (k+j)=xs[j]?
 | [],k,j=>rfl
 | v::xs,k,j=>by
  simp only [List.length_cons,List.range'_succ,List.zip_cons_cons,List.lookup_cons]
  cases j with
  | zero=>simp
  | succ j =>
   have e:(k+(j+1) == k)=false:=by simp
   rw [e,show k+(j+1)=(k+1)+j by omega]
   simpa using C9c xs (k+1) j
theorem C7c {A:bY}:∀ (l:List Value) (k:Nat),(∀ j,j<l.length→A.lookup (k+j)=l[j]?)→O1 A (F1m k l)
 | [],_,_=>trivial
 | v::l,k,h=>⟨by simpa using h 0 oom,C7c l (k+1) fun j a=>by
   have:=h (j+1) (by simp;omega)
   rw [show k+(j+1)=k+1+j by omega] at this
   simpa using this⟩
theorem cC {f:FuncId} {a:Func} {c:Code} {args:List Value} {L0:Own} {Φ0:List Pers} {α:Type} {val:α→Value} {L1:α→Own} {Φ1:α→List Pers} (e:P.funcs[f]?=some a)
  (h:∀ X:Cx,X.M=L0.map Prod.fst→X.rho=none→X.D=[]→J P n X c (D6g P X a α val L1 Φ1) (F1m 0 args) L0 Φ0) (hb:a.body=some c:=by rfl) (g:a.ntmps=n:=by rfl)
  (b : (a.name == "runtime.NumGoroutine") = false := by kernel_rfl) (d : Nat.ble args.length n = true := by rfl) : Con P f args L0 Φ0 α val L1 Φ1 :=
 D7s e hb b g d _ (C7c args 0 fun j i=>by rw [List.range_eq_range',C9c]) h
theorem pp0 {ops:Array Oper} {i:Nat} {m:Nat} (k:Nat) (h:A4z P n ops k i E []=some []) (g:JI P n X ops (i+k) m K Q ([]++E) L Φ):JI P n X ops i (m+k) K Q E L Φ:=Nat.add_comm k m▸ip k m _ h g
theorem bP {ops:Array Oper} {i:Nat} {m:Nat} (k b:Nat) {a:Value} (h:A4z P n ops k i E [(b,a)]=some [(b,a)]) (g:JI P n X ops (i+k) m K Q ([(b,a)]++E) L Φ):JI P n X ops i (m+k) K Q E L Φ:=Nat.add_comm k m▸ip k m _ h g
theorem pd1 {ops:Array Oper} {i:Nat} {m:Nat} (k b:Nat) {a:Value} (h:A4z P n ops k i E [(b,a)]=some [(b,a)]) (g:JD P n X ops (i+k) m K ([(b,a)]++E) L Φ):JD P n X ops i (m+k) K E L Φ:=Nat.add_comm k m▸dp k m _ h g
theorem cF {ops:Array Oper} {i:Nat} {m:Nat} (k:Nat) (b:List Nat) (c:Nat) {a:Value} (h:exL P n ops k i b [] E L [(c,a)]=some ([(c,a)],L,exS P n ops k i b [] E L)) (g:JI P n X ops (i+k) m K Q ([(c,a)]++E) L Φ):JI P n X ops i (m+k) K Q E L Φ:=Nat.add_comm k m▸c9 k m b _ g h
theorem pg1 {ops:Array Oper} {i:Nat} {m:Nat} (k:Nat) (b:List Nat) (c:Nat) {a:Value} (h:exL P n ops k i b [] E L [(c,a)]=some ([(c,a)],L,exS P n ops k i b [] E L)) (g:JD P n X ops (i+k) m K ([(c,a)]++E) L Φ) (d:C6a ops k i=true:=by kernel_rfl):JD P n X ops i (m+k) K E L Φ:=Nat.add_comm k m▸zdg k m b _ g h d
theorem cG {ops:Array Oper} {i:Nat} {m:Nat} (k d a:Nat) {c b:Value} (h:A4z P n ops k i E [(d,c),(a,b)]=some [(d,c),(a,b)]) (g:JI P n X ops (i+k) m K Q ([(d,c),(a,b)]++E) L Φ):JI P n X ops i (m+k) K Q E L Φ:=Nat.add_comm k m▸ip k m _ h g
theorem pd2 {ops:Array Oper} {i:Nat} {m:Nat} (k d a:Nat) {c b:Value} (h:A4z P n ops k i E [(d,c),(a,b)]=some [(d,c),(a,b)]) (g:JD P n X ops (i+k) m K ([(d,c),(a,b)]++E) L Φ):JD P n X ops i (m+k) K E L Φ:=Nat.add_comm k m▸dp k m _ h g
theorem pl2 {ops:Array Oper} {i:Nat} {m:Nat} (k:Nat) (d:List Nat) (e a:Nat) {c b:Value} (h:exL P n ops k i d [] E L [(e,c),(a,b)]=some ([(e,c),(a,b)],L,exS P n ops k i d [] E L)) (g:JI P n X ops (i+k) m K Q ([(e,c),(a,b)]++E) L Φ):JI P n X ops i (m+k) K Q E L Φ:=Nat.add_comm k m▸c9 k m d _ g h
theorem pg2 {ops:Array Oper} {i:Nat} {m:Nat} (k:Nat) (d:List Nat) (e a:Nat) {c b:Value} (h:exL P n ops k i d [] E L [(e,c),(a,b)]=some ([(e,c),(a,b)],L,exS P n ops k i d [] E L)) (g:JD P n X ops (i+k) m K ([(e,c),(a,b)]++E) L Φ) (f:C6a ops k i=true:=by kernel_rfl):JD P n X ops i (m+k) K E L Φ:=Nat.add_comm k m▸zdg k m d _ g h f
theorem pp3 {ops:Array Oper} {i:Nat} {m:Nat} (k f b a:Nat) {e d c:Value} (h:A4z P n ops k i E [(f,e),(b,d),(a,c)]=some [(f,e),(b,d),(a,c)]) (g:JI P n X ops (i+k) m K Q ([(f,e),(b,d),(a,c)]++E) L Φ):JI P n X ops i (m+k) K Q E L Φ:=Nat.add_comm k m▸ip k m _ h g
theorem pd3 {ops:Array Oper} {i:Nat} {m:Nat} (k f b a:Nat) {e d c:Value} (h:A4z P n ops k i E [(f,e),(b,d),(a,c)]=some [(f,e),(b,d),(a,c)]) (g:JD P n X ops (i+k) m K ([(f,e),(b,d),(a,c)]++E) L Φ):JD P n X ops i (m+k) K E L Φ:=Nat.add_comm k m▸dp k m _ h g
theorem pl3 {ops:Array Oper} {i:Nat} {m:Nat} (k:Nat) (f:List Nat) (j b a:Nat) {e d c:Value} (h:exL P n ops k i f [] E L [(j,e),(b,d),(a,c)]=some ([(j,e),(b,d),(a,c)],L,exS P n ops k i f [] E L)) (g:JI P n X ops (i+k) m K Q ([(j,e),(b,d),(a,c)]++E) L Φ):JI P n X ops i (m+k) K Q E L Φ:=Nat.add_comm k m▸c9 k m f _ g h
theorem pp4 {ops:Array Oper} {i:Nat} {m:Nat} (k l c a b:Nat) {j f e d:Value} (h:A4z P n ops k i E [(l,j),(c,f),(a,e),(b,d)]=some [(l,j),(c,f),(a,e),(b,d)]) (g:JI P n X ops (i+k) m K Q ([(l,j),(c,f),(a,e),(b,d)]++E) L Φ):JI P n X ops i (m+k) K Q E L Φ:=Nat.add_comm k m▸ip k m _ h g
def po (cs:List Value) (T:Nat) (q:Option Nat):Own:=match q with | none=>[] | some b=>[bx b cs T]
def pv (q:Option Nat):Value:=match q with | none=>.pointer none | some b=>pt b 0
theorem D6n {q:Option Nat} {f:Bool} (h:q.isSome=f) (e:f=false):none=q:=by subst e;cases q with | none=>rfl | some b=>cases h
theorem D5e {q:Option Nat} {f:Bool} (h:q.isSome=f) (e:f=true):∃ b,some b=q:=by subst e;cases q with | none=>cases h | some b=>exact ⟨b,rfl⟩
theorem E8c {f:Bool} {p:Prop} [Decidable p] (h:f=decide p) (e:f=false):¬ p:=by rw [e] at h;exact of_decide_eq_false h.symm
theorem E1s {f:Bool} {p:Prop} [Decidable p] (h:f=decide p) (e:f=true):p:=by rw [e] at h;exact of_decide_eq_true h.symm
theorem C5z {ops:Array Oper} {i m:Nat} {v:Value} (t:Nat) (c:E.lookup t=some v) (h:JI P n X ops i m K Q ((t,v)::E) L Φ):JI P n X ops i m K Q E L Φ:=fun a w b=>h a w ⟨b.size,b.defers,b.has.val c,b.world⟩
theorem bS {id:Nat} {ops:Array Oper} {y:Code} {m:Nat} (c:ops.size=m) (h:JI P n X ops 0 m (fun a w=>y.wpIn (FW X.rho) 0 P Q a w) (Exit.then (fun a w=>y.wpIn (FW X.rho) 0 P Q a w) Q) E L Φ):J P n X (.seq (.region id ops false) y) Q E L Φ:=sr m c h
class BP (b:Bool) (p:outParam Prop):Prop where
 iff:b=true ↔ p
instance (priority:=low) (b:Bool):BP b (b=true):=⟨Iff.rfl⟩
instance (p:Prop) [Decidable p]:BP (decide p) p:=⟨decide_eq_true_iff⟩
instance (a b:Bool) (p q:Prop) [BP a p] [BP b q]:BP (a&&b) (p∧q):=⟨by rw [Bool.and_eq_true,BP.iff (b:=a),BP.iff (b:=b)]⟩
instance (a b:Bool) (p q:Prop) [BP a p] [BP b q]:BP (a||b) (p∨q):=⟨by rw [Bool.or_eq_true,BP.iff (b:=a),BP.iff (b:=b)]⟩
instance (a:Bool) (p:Prop) [BP a p]:BP (!a) (¬ p):=⟨by rw [Bool.not_eq_true',← BP.iff (b:=a),Bool.not_eq_true]⟩
class BR (c:Bool) (p:Prop) (r:outParam Prop):Prop where
 iff:(c=true→(r ↔ p))∧(c=false→(r ↔ ¬ p))
theorem ozw {p:Prop} (h:p:=by decide):p:=h
instance (p:Prop):BR true p p:=⟨⟨fun _=>Iff.rfl,fun h=>absurd h ozw⟩⟩
instance (p:Prop):BR false p (¬ p):=⟨⟨fun h=>absurd h ozw,fun _=>Iff.rfl⟩⟩
theorem bV {b c:Bool} {p r:Prop} (h:b=c) [BP b p] [BR c p r]:r:=by
 subst h
 cases hb:b with
 | true=>exact ((BR.iff (c:=b) (p:=p) (r:=r)).1 hb).2 ((BP.iff (b:=b)).1 hb)
 | false=>exact ((BR.iff (c:=b) (p:=p) (r:=r)).2 hb).2 fun a=>by rw [(BP.iff (b:=b)).2 a] at hb;cases hb
end
section
variable {Φ:List Pers} {α:Type} {c:α→List Value} {rs ys:List Rwq} {xss yss:List (Rwc α)}
theorem Q4.copy (h:Q4 rs xss) (k:Q4 ys yss) (l:Nat):Q4 (rs.take l++(ys.take (rs.length - l)++rs.drop (l+min ys.length (rs.length - l)))) (xss.take l++(yss.take (xss.length - l)++xss.drop (l+min yss.length (xss.length - l)))):=by
 rw [h.1,k.1];exact Q4.append (Q4.take h l) (Q4.append (Q4.take k _) (Q4.drop h _))
end
section
variable {P:Program} {n:Nat} {X:Cx} {K:Act→World→Prop} {Q:Exit→Act→World→Prop} {E E':bY} {L L':Own} {Φ Φ':List Pers}
end
def pko (cs:List Own) (a:List Nat):Own:=(a.map fun j=>cs.getD j []).flatten
def hdc (cs:List Own) (a:List (Nat×List Nat)):A0j:=a.map fun p=>(p.1,pko cs p.2)
def A6b (l:Array Bool):Nat:=l.toList.countP (!·)
def A2v (l:Array Bool):List Nat→Array Bool
 | []=>l
 | i::is=>A2v (l.setIfInBounds i true) is
def Chk (L:Own) (cs:List Own):Prop:=cs.flatten=L
theorem ch0:Chk [] []:=rfl
theorem ch1 {e:Nat×Obj} {L:Own} {cs:List Own} (h:Chk L cs):Chk (e::L) ([e]::cs):=by unfold Chk at *;simp [h]
theorem ch2 {v L:Own} {cs:List Own} (h:Chk L cs):Chk (v++L) (v::cs):=by unfold Chk at *;simp [h]
theorem ch3 {v:Own}:Chk v [v]:=by unfold Chk;simp
def C9n (m:Nat):Nat→List Nat→Bool
 | _,[]=>true
 | k,j::js=>Nat.ble k j&&Nat.blt j m&&C9n m (j+1) js
theorem C3l:∀ (cs:List Own) (b:List Nat) (k:Nat),C9n (k+cs.length) k b=true→((b.map fun j=>cs.getD (j - k) []).flatten).Sublist cs.flatten
 | cs,[],k,_=>by simp
 | [],j::b,k,h=>by
  simp only [C9n,List.length_nil,Nat.add_zero,Bool.and_eq_true,Nat.ble_eq,Nat.blt_eq] at h;omega
 | c::cs,j::b,k,h=>by
  simp only [C9n,List.length_cons,Bool.and_eq_true,Nat.ble_eq,Nat.blt_eq] at h
  obtain ⟨⟨p,o⟩,g⟩:=h
  by_cases e:j=k
  ·subst e
   have:=C3l cs b (j+1) (by rw [show j+1+cs.length=j+(cs.length+1) by omega];exact g)
   have n:(b.map fun i=>(c::cs).getD (i - j) [])=b.map fun i=>cs.getD (i - (j+1)) []:=by
    refine List.map_congr_left fun i a=>?_
    have:j+1≤i:=by
     clear this p o
     revert g
     generalize j+1=q
     intro g
     have d:∀ (l:List Nat) (q m:Nat),C9n m q l=true→∀ i ∈ l,q≤i:=by
      intro l
      induction l with
      | nil=>intro q m _ i a;cases a
      | cons x xs ih =>
       intro q m f i a
       simp only [C9n,Bool.and_eq_true,Nat.ble_eq] at f
       rcases List.mem_cons.1 a with rfl | a
       ·exact f.1.1
       ·have:=ih (x+1) m f.2 i a;omega
     exact d _ _ _ g i a
    rw [show i - j=(i - (j+1))+1 by omega];rfl
   simp only [List.map_cons,List.flatten_cons,Nat.sub_self,List.getD_cons_zero]
   rw [n]
   exact (List.Sublist.refl c).append this
  ·have:=C3l cs (j::b) (k+1) (by
    simp only [C9n,Bool.and_eq_true,Nat.ble_eq,Nat.blt_eq]
    exact ⟨⟨by omega,by omega⟩,by rw [show k+1+cs.length=k+(cs.length+1) by omega];exact g⟩)
   have n:((j::b).map fun i=>(c::cs).getD (i - k) [])=(j::b).map fun i=>cs.getD (i - (k+1)) []:=by
    refine List.map_congr_left fun i a=>?_
    have:k+1≤i:=by
     rcases List.mem_cons.1 a with rfl | a
     ·omega
     ·have d:∀ (l:List Nat) (q m:Nat),C9n m q l=true→∀ i ∈ l,q≤i:=by
       intro l
       induction l with
       | nil=>intro q m _ i a;cases a
       | cons x xs ih =>
        intro q m f i a
        simp only [C9n,Bool.and_eq_true,Nat.ble_eq] at f
        rcases List.mem_cons.1 a with rfl | a
        ·exact f.1.1
        ·have:=ih (x+1) m f.2 i a;omega
      have:=d _ _ _ g i a;omega
    rw [show i - k=(i - (k+1))+1 by omega];rfl
   rw [n,List.flatten_cons]
   exact this.trans (List.sublist_append_right c _)
def E0r (P:Program) (n:Nat) (ops:Array Oper):List Nat→bY→Option bY
 | [],E=>some E
 | i::is,E=>match ops[i]? with
  | some o=>match B0t ops o E with
   | some true=>match B5v P E o.op with
    | some v=>E0r P n ops is (bY.put E o.dst v)
    | none=>none
   | some false=>E0r P n ops is (bY.put E o.dst undef)
   | none=>none
  | none=>none
def D8y (R:Option bY) (a:bY):Option bY:=match R with
 | some R=>C0v R a
 | none=>none
section
variable {P:Program} {n:Nat} {X:Cx} {K:Act→World→Prop} {Q:Exit→Act→World→Prop} {E E':bY} {L L':Own} {Φ Φ' Φs:List Pers}
abbrev JG (P:Program) (n:Nat) (X:Cx) (ops:Array Oper) (a:Array Bool) (K:Act→World→Prop) (b:A0j) (Φs:List Pers) (E:bY) (L:Own) (Φ:List Pers):Prop:=JH P n X ops (A6b a) a K b Φs E L Φ
theorem E3k (cs:List Own) (a:List (Nat×List Nat)) (l:Array Bool) (h:(a.all fun p=>!(l.getD p.1 false))=true):(hdc cs a).at l=pko cs (a.map (·.2)).flatten:=by
 induction a with
 | nil=>rfl
 | cons p a b =>
  simp only [List.all_cons,Bool.and_eq_true] at h
  have b:=b h.2
  unfold A0j.at hdc at *
  simp only [List.map_cons,List.filter_cons,h.1,if_true,List.flatten_cons]
  rw [b]
  unfold pko
  simp [List.map_append,List.flatten_append]
theorem zS {id:Nat} {ops:Array Oper} {y:Code} {cs:List Own} (b:List (Nat×List Nat)) (h:JG P n X ops (Array.replicate ops.size false) (fun a w=>y.wpIn (FW X.rho) 0 P Q a w) (hdc cs b) Φ E L Φ)
  (f:Chk L cs:=by repeat' first|with_reducible exact ch0|with_reducible apply ch1|with_reducible apply ch2|apply ch1|exact ch3) (hr:C9n cs.length 0 (b.map (·.2)).flatten=true:=by kernel_rfl)
  (d:P.follows .mixedOrders=true:=by kernel_rfl) (hb:(A5g ops&&Region.noSelect ops)=true:=by kernel_rfl) (g:A6b (Array.replicate ops.size false)=ops.size:=by kernel_rfl) (e:(b.all fun p=>!((Array.replicate ops.size false).getD p.1 false))=true:=by kernel_rfl):J P n X (.seq (.region id ops true) y) Q E L Φ:=by
 refine sh _ _ _ _ _ d rfl hb rfl rfl ?_ A7.refl (by have c:=h;unfold JG at c;rwa [g] at c)
 rw [E3k _ _ _ e,← f]
 simpa [pko] using C3l cs (b.map (·.2)).flatten 0 (by rw [Nat.zero_add];exact hr)
theorem zSn {id:Nat} {ops:Array Oper} {cs:List Own} (a:List (Nat×List Nat)) (h:JG P n X ops (Array.replicate ops.size false) (Q .normal) (hdc cs a) Φ E L Φ)
  (e:Chk L cs:=by repeat' first|with_reducible exact ch0|with_reducible apply ch1|with_reducible apply ch2|apply ch1|exact ch3) (hr:C9n cs.length 0 (a.map (·.2)).flatten=true:=by kernel_rfl)
  (c:P.follows .mixedOrders=true:=by kernel_rfl) (hb:(A5g ops&&Region.noSelect ops)=true:=by kernel_rfl) (f:A6b (Array.replicate ops.size false)=ops.size:=by kernel_rfl) (d:(a.all fun p=>!((Array.replicate ops.size false).getD p.1 false))=true:=by kernel_rfl):J P n X (.region id ops true) Q E L Φ:=by
 refine sh' _ _ _ _ _ c rfl hb rfl rfl ?_ A7.refl (by have b:=h;unfold JG at b;rwa [f] at b)
 rw [E3k _ _ _ d,← e]
 simpa [pko] using C3l cs (a.map (·.2)).flatten 0 (by rw [Nat.zero_add];exact hr)
theorem gk {ops:Array Oper} {a:Array Bool} {b:A0j} (i:Nat) {o:Oper} {v:Value} (e:ops[i]?=some o) (f:J9 P X o E (b.of ops i) Φs v) (h:JG P n X ops (a.setIfInBounds i true) K b Φs (bY.put E o.dst v) L Φ)
  (g:B0t ops o E=some true:=by rfl) (c:Y5 n o.dst=true:=by rfl) (d:B1p ops b a i=true:=by kernel_rfl) (j:A6b a=A6b (a.setIfInBounds i true)+1:=by kernel_rfl):JG P n X ops a K b Φs E L Φ:=by
 show JH P n X ops (A6b a) a K b Φs E L Φ
 rw [j];exact F0p i _ _ e g c d rfl rfl f h
theorem gl {ops:Array Oper} {a:Array Bool} {cs:List Own} {b:List (Nat×List Nat)} (i:Nat) (js:List Nat) {o:Oper} {v:Value} (f:ops[i]?=some o) (g:J9 P X o E (pko cs js) Φs v) (h:JG P n X ops (a.setIfInBounds i true) K (hdc cs b) Φs (bY.put E o.dst v) L Φ)
  (j:B0t ops o E=some true:=by rfl) (d:Y5 n o.dst=true:=by rfl) (e:B1p ops (hdc cs b) a i=true:=by kernel_rfl) (c:(hdc cs b).of ops i=pko cs js:=by kernel_rfl) (k:A6b a=A6b (a.setIfInBounds i true)+1:=by kernel_rfl):JG P n X ops a K (hdc cs b) Φs E L Φ:=by
 show JH P n X ops (A6b a) a K (hdc cs b) Φs E L Φ
 rw [k];exact F0p i _ _ f j d e c rfl g h
theorem go {ops:Array Oper} {a:Array Bool} {cs:List Own} {b:List (Nat×List Nat)} (i:Nat) (js:List Nat) {o:Oper} {α:Type} {val:α→Value} {L':α→Own} {Φ':α→List Pers} (e:ops[i]?=some o) (g:Tri P n X o E L Φ α val L' Φ')
  (h:∀ x,JG P n X ops (a.setIfInBounds i true) K (hdc cs b) Φs (bY.put E o.dst (val x)) (L' x) (Φ' x))
  (c:∀ x,(pko cs js).Sublist (L' x):=by
   intro x;(try dsimp only [pko,List.map_cons,List.map_nil,List.getD_cons_zero,List.getD_cons_succ,List.flatten_cons,List.flatten_nil,List.cons_append,List.nil_append,List.append_assoc]);exact bU)
  (hΦ':∀ x,A7 (Φ' x) Φs:=by intro x;exact cB) (j:B0t ops o E=some true:=by rfl) (d:Y5 n o.dst=true:=by rfl) (hr:Region.ready .any ops a=[i]:=by kernel_rfl) (f:(hdc cs b).at (a.setIfInBounds i true)=pko cs js:=by kernel_rfl)
  (k:A6b a=A6b (a.setIfInBounds i true)+1:=by kernel_rfl):JG P n X ops a K (hdc cs b) Φs E L Φ:=by
 show JH P n X ops (A6b a) a K (hdc cs b) Φs E L Φ
 rw [k];exact hone i (pko cs js) _ e j d hr rfl f g c hΦ' h
def AG (P:Program) (n:Nat) (X:Cx) (ops:Array Oper) (b:Array Bool) (i:Nat) (K:Act→World→Prop) (c:A0j) (Φs:List Pers) (E:bY) (L:Own) (Φ:List Pers):Prop :=
 ∀ a w,St n X E L Φ a w→A5g ops=true→Region.noSelect ops=true→b.size=ops.size→wpOpIn (FW X.rho) 0 P ops (oN K) i (fun d w'=>((b.setIfInBounds i true).size=ops.size∧cE X (c.at (b.setIfInBounds i true)) Φs w')∧AH X.rho P ops (oN K) (fun l w=>l.size=ops.size∧cE X (c.at l) Φs w) (A6b (b.setIfInBounds i true)) (b.setIfInBounds i true) d w') a w
theorem gf {ops:Array Oper} {a:Array Bool} {b:A0j} (i k:Nat) (d:AG P n X ops a i K b Φs E L Φ) (c:AG P n X ops a k K b Φs E L Φ) (hr:Region.ready .any ops a=[i,k]:=by kernel_rfl)
  (f:A6b a=A6b (a.setIfInBounds i true)+1:=by kernel_rfl) (e:A6b (a.setIfInBounds k true)=A6b (a.setIfInBounds i true):=by kernel_rfl):JG P n X ops a K b Φs E L Φ:=by
 show JH P n X ops (A6b a) a K b Φs E L Φ
 rw [f]
 refine D7k i k hr d ?_
 unfold AG at c
 rw [e] at c
 exact c
theorem gh {ops:Array Oper} {a:Array Bool} {cs:List Own} {c:List (Nat×List Nat)} (i:Nat) (js:List Nat) {o:Oper} {α:Type} {val:α→Value} {L':α→Own} {Φ':α→List Pers} (e:ops[i]?=some o) (g:Tri P n X o E L Φ α val L' Φ')
  (h:∀ x,JG P n X ops (a.setIfInBounds i true) K (hdc cs c) Φs (bY.put E o.dst (val x)) (L' x) (Φ' x))
  (b:∀ x,(pko cs js).Sublist (L' x):=by
   intro x;(try dsimp only [pko,List.map_cons,List.map_nil,List.getD_cons_zero,List.getD_cons_succ,List.flatten_cons,List.flatten_nil,List.cons_append,List.nil_append,List.append_assoc]);exact bU)
  (hΦ':∀ x,A7 (Φ' x) Φs:=by intro x;exact cB) (j:B0t ops o E=some true:=by rfl) (d:Y5 n o.dst=true:=by rfl) (f:(hdc cs c).at (a.setIfInBounds i true)=pko cs js:=by kernel_rfl):AG P n X ops a i K (hdc cs c) Φs E L Φ :=
 E6a i (pko cs js) _ e j d rfl rfl f g b hΦ' h
theorem hqV {ops:Array Oper} {a:Array Bool} {b:A0j} (is:List Nat) (c:bY) (g:JG P n X ops (A2v a is) K b Φs (c++E) L Φ) (h:C1j P n ops b is a E c=some (A2v a is,c):=by kernel_rfl) (d:A6b a=is.length+A6b (A2v a is):=by kernel_rfl):JG P n X ops a K b Φs E L Φ:=by
 show JH P n X ops (A6b a) a K b Φs E L Φ
 rw [d];exact F5g _ _ _ c h g
theorem hq0 {ops:Array Oper} {a:Array Bool} {b:A0j} (is:List Nat) (g:JG P n X ops (A2v a is) K b Φs E L Φ) (h:C1j P n ops b is a E []=some (A2v a is,[]):=by kernel_rfl) (c:A6b a=is.length+A6b (A2v a is):=by kernel_rfl):JG P n X ops a K b Φs E L Φ:=hqV is [] g h c
theorem hq1 {ops:Array Oper} {a:Array Bool} {b:A0j} (is:List Nat) (d:Nat) {c:Value} (f:D8y (E0r P n ops is E) [(d,c)]=some [(d,c)]) (g:JG P n X ops (A2v a is) K b Φs ([(d,c)]++E) L Φ) (h:C1j P n ops b is a E [(d,c)]=some (A2v a is,[(d,c)]):=by kernel_rfl) (e:A6b a=is.length+A6b (A2v a is):=by kernel_rfl):JG P n X ops a K b Φs E L Φ:=hqV is _ g h e
theorem hq2 {ops:Array Oper} {a:Array Bool} {b:A0j} (is:List Nat) (f c:Nat) {e d:Value} (j:D8y (E0r P n ops is E) [(f,e),(c,d)]=some [(f,e),(c,d)]) (g:JG P n X ops (A2v a is) K b Φs ([(f,e),(c,d)]++E) L Φ) (h:C1j P n ops b is a E [(f,e),(c,d)]=some (A2v a is,[(f,e),(c,d)]):=by kernel_rfl) (i:A6b a=is.length+A6b (A2v a is):=by kernel_rfl):JG P n X ops a K b Φs E L Φ:=hqV is _ g h i
theorem hq3 {ops:Array Oper} {a:Array Bool} {b:A0j} (is:List Nat) (j d c:Nat) {i f e:Value} (l:D8y (E0r P n ops is E) [(j,i),(d,f),(c,e)]=some [(j,i),(d,f),(c,e)]) (g:JG P n X ops (A2v a is) K b Φs ([(j,i),(d,f),(c,e)]++E) L Φ) (h:C1j P n ops b is a E [(j,i),(d,f),(c,e)]=some (A2v a is,[(j,i),(d,f),(c,e)]):=by kernel_rfl) (k:A6b a=is.length+A6b (A2v a is):=by kernel_rfl):JG P n X ops a K b Φs E L Φ:=hqV is _ g h k
theorem hq4 {ops:Array Oper} {a:Array Bool} {b:A0j} (is:List Nat) (l e c d:Nat) {k j i f:Value} (o:D8y (E0r P n ops is E) [(l,k),(e,j),(c,i),(d,f)]=some [(l,k),(e,j),(c,i),(d,f)]) (g:JG P n X ops (A2v a is) K b Φs ([(l,k),(e,j),(c,i),(d,f)]++E) L Φ) (h:C1j P n ops b is a E [(l,k),(e,j),(c,i),(d,f)]=some (A2v a is,[(l,k),(e,j),(c,i),(d,f)]):=by kernel_rfl) (m:A6b a=is.length+A6b (A2v a is):=by kernel_rfl):JG P n X ops a K b Φs E L Φ:=hqV is _ g h m
theorem hq5 {ops:Array Oper} {a:Array Bool} {b:A0j} (is:List Nat) (o e c d k:Nat) {l j i f m:Value} (q:D8y (E0r P n ops is E) [(o,l),(e,j),(c,i),(d,f),(k,m)]=some [(o,l),(e,j),(c,i),(d,f),(k,m)]) (g:JG P n X ops (A2v a is) K b Φs ([(o,l),(e,j),(c,i),(d,f),(k,m)]++E) L Φ) (h:C1j P n ops b is a E [(o,l),(e,j),(c,i),(d,f),(k,m)]=some (A2v a is,[(o,l),(e,j),(c,i),(d,f),(k,m)]):=by kernel_rfl) (p:A6b a=is.length+A6b (A2v a is):=by kernel_rfl):JG P n X ops a K b Φs E L Φ:=hqV is _ g h p
theorem gS {ops:Array Oper} {a:Array Bool} {cs:List Own} {d:List (Nat×List Nat)} {α:Type} {c:α→List Value} {T:Nat} {r:VR} {xs:List α} (pre post:Own) (js:List Nat) {sz:Nat} (b:bT sz xs.length r) (hL:L=pre++(vo c T r xs++post))
  (h:JG P n X ops a K (hdc cs d) Φs E (pre++post) (sl c (va r.q) xs::Φ)) (f:(hdc cs d).at a=pko cs js:=by kernel_rfl)
  (e:(pko cs js).Sublist (pre++post):=by
   (try dsimp only [pko,List.map_cons,List.map_nil,List.getD_cons_zero,List.getD_cons_succ,List.flatten_cons,List.flatten_nil,List.cons_append,List.nil_append,List.append_assoc]);exact bU):JG P n X ops a K (hdc cs d) Φs E L Φ:=E2y pre post b hL _ f e h
theorem ge {ops:Array Oper} {b:Array Bool} {c:A0j} {y:Code} (h:J P n X y Q E L Φ) (hr:Region.ready .any ops b=[]:=by kernel_rfl):JG P n X ops b (fun a w=>y.wpIn (FW X.rho) 0 P Q a w) c Φs E L Φ:=B4u hr h
theorem gdn {ops:Array Oper} {a:Array Bool} {b:A0j} (h:JQ n X K E L Φ) (hr:Region.ready .any ops a=[]:=by kernel_rfl):JG P n X ops a K b Φs E L Φ:=C0k hr h
end
section
variable {P:Program} {n:Nat} {X:Cx} {K:Act→World→Prop} {Q:Exit→Act→World→Prop} {E E':bY} {L L':Own} {Φ Φ' Φs:List Pers}
theorem pk_ {L L0 L2:Own} (h:PkP L L0 L2:=by repeat' first|with_reducible exact pk0|with_reducible apply pkc|with_reducible apply pkv|with_reducible exact re0|with_reducible exact rv0|with_reducible apply re1|with_reducible apply re2|with_reducible apply rv1|with_reducible apply rv2):PkP L L0 L2:=h
theorem F6a {M L:Own} (h:SrP M L:=by
   refine sr4 ond ?_
   repeat' first|with_reducible exact sr0|with_reducible apply sr1|with_reducible apply sr2|with_reducible apply in1|with_reducible exact in0|exact sr3):SrP M L:=h
theorem F1n {cs:List Own} {a:List Nat} {L:Own} (h:(pko cs a).Sublist L:=by
   (try dsimp only [pko,List.map_cons,List.map_nil,List.getD_cons_zero,List.getD_cons_succ,List.flatten_cons,List.flatten_nil,List.cons_append,List.nil_append,List.append_assoc]);exact bU):(pko cs a).Sublist L:=h
theorem ph_ {Φ1 Φ Φ3:List Pers} (h:Φ1++Φ=Φ3:=by first|exact List.nil_append _|(simp only [List.nil_append,List.cons_append];exact rfl)|exact rfl):Φ1++Φ=Φ3:=h
theorem gc {ops:Array Oper} {a:Array Bool} {cs:List Own} {g:List (Nat×List Nat)} (i:Nat) (js:List Nat) {k:FuncId} {args:List Value} {d:Option Nat} {L0 L2:Own} {Φ0:List Pers} {α:Type} {val:α→Value} {L1:α→Own} {Φ1:α→List Pers} {L3:α→Own} {Φ3:α→List Pers}
  (m:C6x n ops i E=some (k,args,d)) (b:Con P k args L0 Φ0 α val L1 Φ1) (h:∀ x,JG P n X ops (a.setIfInBounds i true) K (hdc cs g) Φs (bY.put E d (val x)) (L3 x) (Φ3 x))
  (hL:PkP L L0 L2:=by exact pk_) (e:∀ x,SrP (L1 x++L2) (L3 x):=by intro _;exact F6a) (hΦ:A7 Φ Φ0:=by exact cB) (hΦ3:∀ x,Φ1 x++Φ=Φ3 x:=by intro _;exact ph_)
  (j:∀ x,(pko cs js).Sublist (L3 x):=by intro _;exact F1n) (hΦ':∀ x,A7 (Φ3 x) Φs:=by intro _;exact cB) (hr:Region.ready .any ops a=[i]:=by kernel_rfl) (s:(hdc cs g).at (a.setIfInBounds i true)=pko cs js:=by kernel_rfl)
  (u:A6b a=A6b (a.setIfInBounds i true)+1:=by kernel_rfl):JG P n X ops a K (hdc cs g) Φs E L Φ:=by
 obtain ⟨o,c,w,first,cap,v,f,q,l,t,p,r,rfl⟩:=B0z m
 obtain rfl:(fun x=>Φ1 x++Φ)=Φ3:=funext hΦ3
 exact go i _ (N9 f).1 (L6 b q l t p r hΦ hL _ e) h j hΦ' (N9 f).2.1 (N9 f).2.2 hr s u
theorem ghc {ops:Array Oper} {a:Array Bool} {cs:List Own} {f:List (Nat×List Nat)} (i:Nat) (js:List Nat) {k:FuncId} {args:List Value} {d:Option Nat} {L0 L2:Own} {Φ0:List Pers} {α:Type} {val:α→Value} {L1:α→Own} {Φ1:α→List Pers} {L3:α→Own} {Φ3:α→List Pers}
  (p:C6x n ops i E=some (k,args,d)) (b:Con P k args L0 Φ0 α val L1 Φ1) (h:∀ x,JG P n X ops (a.setIfInBounds i true) K (hdc cs f) Φs (bY.put E d (val x)) (L3 x) (Φ3 x))
  (hL:PkP L L0 L2:=by exact pk_) (j:∀ x,SrP (L1 x++L2) (L3 x):=by intro _;exact F6a) (hΦ:A7 Φ Φ0:=by exact cB) (hΦ3:∀ x,Φ1 x++Φ=Φ3 x:=by intro _;exact ph_)
  (g:∀ x,(pko cs js).Sublist (L3 x):=by intro _;exact F1n) (hΦ':∀ x,A7 (Φ3 x) Φs:=by intro _;exact cB) (l:(hdc cs f).at (a.setIfInBounds i true)=pko cs js:=by kernel_rfl):AG P n X ops a i K (hdc cs f) Φs E L Φ:=by
 obtain ⟨o,c,v,first,cap,u,e,s,m,q,r,t,rfl⟩:=B0z p
 obtain rfl:(fun x=>Φ1 x++Φ)=Φ3:=funext hΦ3
 exact gh i _ (N9 e).1 (L6 b s m q r t hΦ hL _ j) h g hΦ' (N9 e).2.1 (N9 e).2.2 l
theorem gv {ops:Array Oper} {a:Array Bool} {cs:List Own} {f:List (Nat×List Nat)} (i:Nat) (js:List Nat) {k:FuncId} {args:List Value} {d:Option Nat} {Φ0:List Pers} {v:Value} (m:C6x n ops i E=some (k,args,d)) (b:J5 P k args Φ0 v)
  (h:JG P n X ops (a.setIfInBounds i true) K (hdc cs f) Φs (bY.put E d v) L Φ) (hΦ:A7 Φ Φ0:=by exact cB) (g:(pko cs js).Sublist L:=by exact F1n) (hΦ':A7 Φ Φs:=by exact cB) (hr:Region.ready .any ops a=[i]:=by kernel_rfl) (j:(hdc cs f).at (a.setIfInBounds i true)=pko cs js:=by kernel_rfl)
  (t:A6b a=A6b (a.setIfInBounds i true)+1:=by kernel_rfl):JG P n X ops a K (hdc cs f) Φs E L Φ:=by
 obtain ⟨o,c,w,first,cap,u,e,r,l,p,q,s,rfl⟩:=B0z m
 exact go i _ (N9 e).1 (Det.tri (B6r b r l p q s hΦ)) (fun _=>h) (fun _=>g) (fun _=>hΦ') (N9 e).2.1 (N9 e).2.2 hr j t
def Upd (L:Own) (j:Nat) (e:Nat×Obj) (L':Own):Prop:=L.set j e=L'
theorem up0 {x e:Nat×Obj}:Upd (x::L) 0 e (e::L):=rfl
theorem up1 {x e:Nat×Obj} {j:Nat} (h:Upd L j e L'):Upd (x::L) (j+1) e (x::L'):=by unfold Upd at *;simp [h]
theorem F6q {L L':Own} {j:Nat} {e:Nat×Obj} (h:Upd L j e L':=by repeat' first|with_reducible exact up0|with_reducible apply up1|exact up0|apply up1):Upd L j e L':=h
theorem zra {ops:Array Oper} {i:Nat} {m:Nat} (k:Nat) (d:List Nat) (a:Nat→bY) (c:Nat→List Value) (T:Nat) (g:∀ b,JI P n X ops (i+k) m K Q (a b++E) (bx b (c b) T::L) Φ) (h:∀ b,exL P n ops k i d [b] E L (a b)=some (a b,bx b (c b) T::L,exS P n ops k i d [b] E L):=by intros;kernel_rfl):JI P n X ops i (m+k) K Q E L Φ :=
 Nat.add_comm k m▸B0j k m d a _ g h
theorem B6z {ops:Array Oper} {i:Nat} {m:Nat} (k:Nat) (f:List Nat) (a:Nat→Nat→bY) (c d:Nat→Nat→List Value) (T U:Nat) (g:∀ b e,JI P n X ops (i+k) m K Q (a b e++E) (bx e (d b e) U::bx b (c b e) T::L) Φ) (h:∀ b e,exL P n ops k i f [b,e] E L (a b e)=some (a b e,bx e (d b e) U::bx b (c b e) T::L,exS P n ops k i f [b,e] E L):=by intros;kernel_rfl):JI P n X ops i (m+k) K Q E L Φ :=
 Nat.add_comm k m▸E4i k m f a _ g h
theorem zru {ops:Array Oper} {i:Nat} {m:Nat} (k:Nat) (b:List Nat) (a:bY) (j:Nat) (e:Nat×Obj) {L':Own} (g:JI P n X ops (i+k) m K Q (a++E) L' Φ) (c:Upd L j e L':=by exact F6q) (h:exL P n ops k i b [] E L a=some (a,L',exS P n ops k i b [] E L):=by kernel_rfl):JI P n X ops i (m+k) K Q E L Φ :=
 Nat.add_comm k m▸zrg k m b a L' g h
end
section
variable {ρ:Option Nat} {P:Program} {ops:Array Oper}
end
section
variable {P:Program} {n:Nat} {X:Cx} {K:Act→World→Prop} {Q:Exit→Act→World→Prop} {E E':bY} {L L' Ls:Own} {Φ Φ' Φs:List Pers}
end
section
variable {P:Program} {X:Cx} {E:bY} {L:Own} {Φ:List Pers}
end
structure RwX (τ:Type) where
 s:Slc
 b:τ
structure RwD (τ α:Type) where
 l:List α
 b:τ
def C3i {τ α:Type} (rs:List (RwX τ)) (xss:List (RwD τ α)):Prop:=rs.length=xss.length∧B4 (rs.map RwX.s) (xss.map RwD.l)∧rs.map RwX.b=xss.map RwD.b
section
variable {P:Program} {n:Nat} {X:Cx} {K:Act→World→Prop} {Q:Exit→Act→World→Prop} {E E':bY} {L L':Own} {Φ Φ':List Pers} {τ α:Type} {c:α→List Value} {rs rs':List (RwX τ)} {xss xss':List (RwD τ α)}
theorem C3i.none:C3i ([]:List (RwX τ)) ([]:List (RwD τ α)):=⟨rfl,B4.none,rfl⟩
theorem C3i.cons {r:RwX τ} {x:RwD τ α} (c:r.s.n=x.l.length∧r.s.n≤r.s.k∧x.l.length≤9223372036854775807) (hb:r.b=x.b) (a:C3i rs xss):C3i (r::rs) (x::xss):=⟨by simp [a.1],B4.cons c a.2.1,by simp [hb,a.2.2]⟩
theorem C3i.append (a:C3i rs xss) (b:C3i rs' xss'):C3i (rs++rs') (xss++xss'):=⟨by simp [a.1,b.1],by rw [List.map_append,List.map_append];exact B4.append a.2.1 b.2.1,by rw [List.map_append,List.map_append,a.2.2,b.2.2]⟩
end
end Go.Fen
namespace Go.Proofs.YtgimbmncdmnklaaGreatDoor
open Go Go.Fen
theorem C7p (w:World) :
  CallsD Tryz.prog 186 #[] (.panicking [{v:=A7n,recovered:=false}]) w fun e u' w' =>
   e=.returned (.tuple #[])∧u'=.panicking [{v:=A7n,recovered:=true}]∧w'=w:=by
 refine callsD_of_wpS Tryz.func186 rfl fun b cs a=>?_
 apply wpS_seq
 apply wpS_region
 simp [wpOpsS,go_sem,recoverD,a,Tryz.ntmps186,Exit.thenS]
 apply wpS_seq
 apply wpS_region
 simp [wpOpsS,go_sem,recoverD,a,Tryz.ntmps186,Exit.thenS]
 refine wpS_cond (t:=true) (by simp [Act.eval,Array.replicate]) ?_
 simp only [if_true]
 apply wpS_region
 simp [wpOpsS,go_sem,bodyPostS,results,Tryz.results186,Instr.typeAssert]
theorem E2a (w:World) :
  CallsD Tryz.prog 186 #[] .returning w fun e u' w'=>e=.returned (.tuple #[])∧u'=.returning∧w'=w:=by
 refine callsD_of_wpS Tryz.func186 rfl fun b cs a=>?_
 apply wpS_seq
 apply wpS_region
 simp [wpOpsS,go_sem,recoverD,a,Tryz.ntmps186,Exit.thenS]
 apply wpS_seq
 apply wpS_region
 simp [wpOpsS,go_sem,recoverD,a,Tryz.ntmps186,Exit.thenS]
 refine wpS_cond (t:=false) (by simp [Act.eval,Array.replicate]) ?_
 simp only [Bool.false_eq_true,if_false]
 refine wpS_of_wp (wp_skip ?_)
 cases b
 simp_all [bodyPostS,results,Tryz.results186]
def C9a (R:Option (List UInt8)):List UInt8×Bool:=match R with | some s=>(s,true) | none=>([],false)
theorem F1u {k:FuncId} {cap:List Value} {L0:Fen.Own} {Φ0:List Pers} (R:Option (List UInt8)) (h:D2w Tryz.prog k cap L0 Φ0 A7n R (fun s=>.string (bs s))) :
  Con Tryz.prog 115 [.func (.func k) #[] cap.toArray] L0 Φ0 Unit (fun _=>.tuple #[.string (bs (C9a R).1),.bool (C9a R).2]) (fun _=>[]) (fun _=>[]):=by
 refine ⟨⟨by kernel_rfl⟩,fun w c m l j=>?_⟩
 have i:=h.2 w c m l j
 have hb:=h.1
 have n:∀ w:World,(callFunc k cap.toArray).run Tryz.prog w=.ok (.enter k cap.toArray) w:=fun w=>A1f hb _ w
 cases R with
 | none =>
  have a:Calls Tryz.prog k cap.toArray w fun e w'=>e=.panicked [{v:=A7n,recovered:=false}]∧cE (cx w c (L0.map Prod.fst)) [] [] w':=i.mono fun e w' ⟨g,b⟩=>⟨b,g⟩
  go_enter_defers Tryz.func115,Tryz.ntmps115
  go_wp2_with (refine a.mono ?_;rintro e w' ⟨rfl,hw⟩)
  refine leaves_cons (f:=186) (args:=#[]) oom (by simp [go_sem]) ?_
  refine (C7p _).mono ?_
  rintro e u' d ⟨rfl,rfl,rfl⟩
  simpa [Leaves,settle,results,Tryz.results115,go_sem,C9a] using hw
 | some s =>
  have a:Calls Tryz.prog k cap.toArray w fun e w'=>e=.returned (.string (bs s))∧cE (cx w c (L0.map Prod.fst)) [] [] w':=i.mono fun e w' ⟨g,b⟩=>⟨b,g⟩
  go_enter_defers Tryz.func115,Tryz.ntmps115
  go_wp2_with (refine a.mono ?_;rintro e w' ⟨rfl,hw⟩)
  refine leaves_cons (f:=186) (args:=#[]) oom (by simp [go_sem]) ?_
  refine (E2a _).mono ?_
  rintro e u' d ⟨rfl,rfl,rfl⟩
  simpa [Leaves,settle,results,Tryz.results115,go_sem,C9a] using hw
end Go.Proofs.YtgimbmncdmnklaaGreatDoor
namespace Go.Proofs.YtgimbmncdmnklaaGreatDoor
open Go Go.Fen Go.RowKit
set_option maxHeartbeats 1000000 in
theorem D1z (b:Nat) (w:World) (c:w.cell? ⟨b,0,none⟩=some (.pointer (some ⟨b,0,none⟩))) :
  Calls Tryz.prog 239 #[.pointer (some ⟨b,0,none⟩)] w fun e w'=>e=.returned (.tuple #[])∧w'=w:=by
 obtain ⟨j,a,_⟩:=Option.map_eq_some_iff.1 (show (Tryz.prog.info? 296).map (·.size)=some 2 by kernel_rfl)
 go_enter Tryz.func239,Tryz.ntmps239
 go_wp2
 rw [Lib.run_neq_ptr_same w _ Tryz.underlying294 a]
 go_wp2
 go_end0
 exact ⟨rfl,rfl⟩
theorem oki {p:Prop} (h:p:=by kernel_rfl):p:=h
set_option maxHeartbeats 1000000 in
theorem C8h (b:Nat) (w:World) (g:w.cell? ⟨b,0,none⟩=some (.pointer none)) (a:w.shape? b=some (296,2)) (f:w.frozen? ⟨b,0,none⟩=false) :
  Calls Tryz.prog 239 #[.pointer (some ⟨b,0,none⟩)] w fun e w'=>e=.returned (.tuple #[])∧w'=w.setCell ⟨b,0,none⟩ (.pointer (some ⟨b,0,none⟩)):=by
 obtain ⟨j,d,c⟩:=Option.map_eq_some_iff.1 (show (Tryz.prog.info? 296).map (·.size)=some 2 by kernel_rfl)
 go_enter Tryz.func239,Tryz.ntmps239
 go_wp2
 rw [Lib.run_to_unsafe w ⟨b,0,none⟩ Tryz.underlying294 Tryz.underlying348 d (by rw [c];decide) a (Nat.zero_lt_succ 1)]
 simp only [Result.andThen]
 rw [Oper.upon_value]
 go_wp2
 rw [run_callFunc_extern Tryz.func254 oki oki oki (e:=Extern.AbiNoEscape.same) oki]
 rw [Lib.run_noEscape]
 simp only [Result.andThen]
 rw [Oper.upon_value]
 go_wp2
 rw [Lib.run_from_unsafe w ⟨b,0,none⟩ Tryz.underlying348 Tryz.underlying294 d a oki]
 simp only [Result.andThen]
 rw [Oper.upon_value]
 go_wp2
 go_end0
 exact ⟨rfl,rfl⟩
theorem C4y {M:List Nat} (w:World):KeptBut M w w.drew:=⟨rfl,rfl,rfl,Nat.le_refl _,fun _ _ _=>rfl⟩
theorem E1o {M:List Nat} {a w:World} {g:Nat} (h:KeptBut M a w) (c:g ∈ M) (n:Nat):KeptBut M a (w.freeze ⟨g,0,none⟩ n):=by
 refine h.trans ?_
 unfold World.freeze
 split
 ·exact KeptBut.refl M w
 ·exact ⟨rfl,rfl,rfl,by simp,fun k d b=>by
   simp only [Array.getElem?_modify]
   rw [if_neg (by rintro rfl;exact b c)]⟩
set_option maxHeartbeats 1000000 in
theorem D8q (b g cap:Nat) (p:Value) (cur:Array Value) (l:List UInt8) (w:World) (i:l≠[]) (f:w.heap[b]?=some (.cells #[p,.slice (some ⟨g,0,none⟩) l.length cap] 296 (0,0))) (k:w.heap[g]?=some (.cells cur 5 (0,0)))
  (n:l.length≤cap) (d:cap≤maxLen) (q:cur.size=cap) (a:∀ (j:Nat) (x:UInt8),l[j]?=some x→cur[j]?=some (Value.int .u8 (x.toNat:Int))) :
  Calls Tryz.prog 204 #[.pointer (some ⟨b,0,none⟩)] w fun e w'=>e=.returned (.string ⟨l.toArray⟩)∧KeptBut [b,g] w w':=by
 have o:l.length≠0:=by simpa using i
 have c1:w.drew.cell? ⟨b,1,none⟩=some (.slice (some ⟨g,0,none⟩) l.length cap):=by
  have:w.drew.heap[b]?=some (.cells #[p,.slice (some ⟨g,0,none⟩) l.length cap] 296 (0,0)):=f
  rw [Lib.cell_of_heap this];rfl
 have r:(Builtin.unsafeSliceData_ #[98] 332 #[.slice (some ⟨g,0,none⟩) l.length cap]).run Tryz.prog w.drew=.ok (.pointer (some ⟨g,0,none⟩)) w.drew :=
  Lib.run_unsafeSliceData_row _ _ _ _ _ _ opx
 have m:(Builtin.unsafeString_ #[332,3] 9 #[.pointer (some ⟨g,0,none⟩),.int .i64 l.length]).run Tryz.prog w.drew=.ok (.string ⟨l.toArray⟩) (w.drew.freeze ⟨g,0,none⟩ l.length):=by
  refine Lib.run_unsafeString_row w.drew 332 3 9 5 Tryz.underlying332 oki g cur.size (by have c:w.drew.heap[g]?=some (.cells cur 5 (0,0)):=k;simp [World.shape?,c]) l i opx (by unfold maxLen at d;omega) ?_
  intro j x s
  have c:w.drew.heap[g]?=some (.cells cur 5 (0,0)):=k
  rw [Addr.add_lit,Nat.zero_add,Lib.cell_of_heap c]
  exact a j x s
 have h:Tryz.prog.follows .mixedOrders=true:=by kernel_rfl
 go_enter Tryz.func204,Tryz.ntmps204
 go_wp2
 go_region_o
 all_goals (go_wp2;go_ret;exact ⟨rfl,E1o (C4y w) oom _⟩)
set_option maxHeartbeats 2000000 in
theorem E1f (b:Nat) (p:Value) (w:World) (c:w.heap[b]?=some (.cells #[p,.slice none 0 0] 296 (0,0))) :
  Calls Tryz.prog 204 #[.pointer (some ⟨b,0,none⟩)] w fun e w'=>e=.returned (.string ⟨#[]⟩)∧KeptBut [b] w w':=by
 have d:=fun (W:World) (q:Option Addr)=>Lib.run_unsafeString_none (P:=Tryz.prog) W 332 3 9 q
 have c1:w.drew.cell? ⟨b,1,none⟩=some (.slice none 0 0):=by
  have:w.drew.heap[b]?=some (.cells #[p,.slice none 0 0] 296 (0,0)):=c
  rw [Lib.cell_of_heap this];rfl
 have f:(Builtin.unsafeSliceData_ #[98] 332 #[.slice none 0 0]).run Tryz.prog w.drew=.ok (.pointer none) w.drew:=rfl
 have a:Tryz.prog.follows .mixedOrders=true:=by kernel_rfl
 go_enter Tryz.func204,Tryz.ntmps204
 go_wp2
 go_region_o
 all_goals (go_wp2;go_ret;exact ⟨rfl,C4y w⟩)
set_option maxHeartbeats 2000000 in
theorem D2n (b g:Nat) (p:Value) (cur:Array Value) (w:World) (a:w.heap[b]?=some (.cells #[p,.slice (some ⟨g,0,none⟩) 0 0] 296 (0,0))) (i:w.heap[g]?=some (.cells cur 5 (0,0))) :
  Calls Tryz.prog 204 #[.pointer (some ⟨b,0,none⟩)] w fun e w'=>e=.returned (.string ⟨#[]⟩)∧KeptBut [b,g] w w':=by
 have h:=fun (W:World) (q:Option Addr)=>Lib.run_unsafeString_none (P:=Tryz.prog) W 332 3 9 q
 have c:b<w.heap.size:=by
  rcases Nat.lt_or_ge b w.heap.size with h' | h'
  ·exact h'
  ·simp [Array.getElem?_eq_none h'] at a
 have c1:w.drew.cell? ⟨b,1,none⟩=some (.slice (some ⟨g,0,none⟩) 0 0):=by
  have:w.drew.heap[b]?=some (.cells #[p,.slice (some ⟨g,0,none⟩) 0 0] 296 (0,0)):=a
  rw [Lib.cell_of_heap this];rfl
 have j:(Builtin.unsafeSliceData_ #[98] 332 #[.slice (some ⟨g,0,none⟩) 0 0]).run Tryz.prog w.drew=.ok (.pointer (some ⟨w.drew.heap.size,0,none⟩)) (w.drew.alloc (.view ⟨g,0,none⟩ 5)) :=
  Lib.run_unsafeSliceData_zero w.drew _ _ 5 Tryz.underlying332 ⟨g,0,none⟩ 0 (5,cur.size) (by have d:w.drew.heap[g]?=some (.cells cur 5 (0,0)):=i;simp [World.shape?,d])
 have c2:(w.drew.alloc (.view ⟨g,0,none⟩ 5)).cell? ⟨b,1,none⟩=some (.slice (some ⟨g,0,none⟩) 0 0):=by
  have:(w.drew.alloc (.view ⟨g,0,none⟩ 5)).heap[b]?=_:=(Lib.alloc_old w.drew _ b c).trans a
  rw [Lib.cell_of_heap this];rfl
 have k:(w.alloc (.view ⟨g,0,none⟩ 5)).drew.cell? ⟨b,1,none⟩=some (.slice (some ⟨g,0,none⟩) 0 0):=c2
 have f:Tryz.prog.follows .mixedOrders=true:=by kernel_rfl
 go_enter Tryz.func204,Tryz.ntmps204
 go_wp2
 go_region_o
 all_goals (go_wp2;go_ret;exact ⟨rfl,(C4y w).alloc _⟩)
set_option maxHeartbeats 2000000 in
theorem D8c (b g cap:Nat) (p:Value) (w:World) (a:cap≠0) (d:w.heap[b]?=some (.cells #[p,.slice (some ⟨g,0,none⟩) 0 cap] 296 (0,0))) :
  Calls Tryz.prog 204 #[.pointer (some ⟨b,0,none⟩)] w fun e w'=>e=.returned (.string ⟨#[]⟩)∧KeptBut [b,g] w w':=by
 have f:=fun (W:World) (q:Option Addr)=>Lib.run_unsafeString_none (P:=Tryz.prog) W 332 3 9 q
 have c1:w.drew.cell? ⟨b,1,none⟩=some (.slice (some ⟨g,0,none⟩) 0 cap):=by
  have:w.drew.heap[b]?=some (.cells #[p,.slice (some ⟨g,0,none⟩) 0 cap] 296 (0,0)):=d
  rw [Lib.cell_of_heap this];rfl
 have h:(Builtin.unsafeSliceData_ #[98] 332 #[.slice (some ⟨g,0,none⟩) 0 cap]).run Tryz.prog w.drew=.ok (.pointer (some ⟨g,0,none⟩)) w.drew :=
  Lib.run_unsafeSliceData_row _ _ _ _ _ _ a
 clear a
 have c:Tryz.prog.follows .mixedOrders=true:=by kernel_rfl
 go_enter Tryz.func204,Tryz.ntmps204
 go_wp2
 go_region_o
 all_goals (go_wp2;go_ret;exact ⟨rfl,C4y w⟩)
theorem st0 {L0:Fen.Own} {h:Hp} {w:World} (i:h.sub w) (c:A3j L0 h w):cE (cx w h (L0.map Prod.fst)) L0 [] w :=
 ⟨h,⟨fun q f=>(by cases f),i,Hp.le_refl _,fun b hb=>.inl hb,c,fun e g=>.inl (List.mem_map_of_mem g),KeptBut.refl _ _,fun d a=>by cases a⟩⟩
theorem D8w (b:Nat) (v:Value):Con Tryz.prog 239 [pt b 0] [bx b [.pointer none,v] 296] [] Unit (fun _=>.tuple #[]) (fun _=>[bx b [pt b 0,v] 296]) (fun _=>[]):=by
 refine ⟨⟨by kernel_rfl⟩,fun w h l d c=>?_⟩
 have hb:=(c.1 _ (List.mem_singleton.2 rfl)).1
 simp only at hb
 have f:=st0 d c
 refine (C8h b w (by rw [Lib.cell_of_heap hb];rfl) (by simp [World.shape?,hb]) (Lib.frozen_of_heap hb 0)).mono ?_
 rintro e w' ⟨rfl,rfl⟩
 refine ⟨(),rfl,?_⟩
 have a:w.setCell ⟨b,0,none⟩ (.pointer (some ⟨b,0,none⟩))=w.setRow b #[pt b 0,v]:=by
  have:=setRow_heap w b #[Value.pointer none,v] #[pt b 0,v] 296 (0,0) hb
  simp only [World.setCell,World.setRow]
  congr 1
  apply Array.ext_getElem?
  intro i
  simp only [Array.getElem?_modify]
  split
  ·rename_i j;subst j;simp [hb]
  ·rfl
 rw [a]
 exact f.set (i:=0) rfl (setRow_heap w b _ _ _ _ hb) (fun k g=>setRow_other w b k _ g) rfl rfl rfl oom
theorem D8r (b:Nat) (v:Value):Con Tryz.prog 239 [pt b 0] [bx b [pt b 0,v] 296] [] Unit (fun _=>.tuple #[]) (fun _=>[bx b [pt b 0,v] 296]) (fun _=>[]):=by
 refine ⟨⟨by kernel_rfl⟩,fun w h f c a=>?_⟩
 have hb:=(a.1 _ (List.mem_singleton.2 rfl)).1
 simp only at hb
 have d:=st0 c a
 refine (D1z b w (by rw [Lib.cell_of_heap hb];rfl)).mono ?_
 rintro e w' ⟨rfl,rfl⟩
 exact ⟨(),rfl,d⟩
theorem F1l {L0:Fen.Own} {h:Hp} {w w':World} (g:h.sub w) (k:A3j L0 h w) (i:KeptBut (L0.map Prod.fst) w w'):cE (cx w h (L0.map Prod.fst)) [] [] w':=by
 refine ⟨h,⟨fun q m=>(by cases m),fun b o e=>?_,Hp.le_refl _,fun b hb=>.inl hb,⟨fun e c=>(by cases c),List.nodup_nil⟩,fun e c=>(by cases c),i,fun d j=>by cases j⟩⟩
 have a:b ∉ L0.map Prod.fst:=fun l=>by
  obtain ⟨n,f,rfl⟩:=List.mem_map.1 l
  rw [(k.1 n f).2] at e
  cases e
 rw [i.block b (Hp.lt g e) a]
 exact g b o e
theorem D8u (b:Nat) (p:Value) (l:List UInt8) (r:VR) (f:bT 1 l.length r):Con Tryz.prog 204 [pt b 0] (bx b [p,vv r l.length] 296::(vo cI 5 r l++[])) [] Unit (fun _=>sv l) (fun _=>[]) (fun _=>[]):=by
 refine ⟨⟨by kernel_rfl⟩,fun w h hq hs n=>?_⟩
 have hb:=(n.1 (bx b [p,vv r l.length] 296) oom).1
 simp only at hb
 have o:∀ {R:Ending→World→Prop},(∀ e w',(e=.returned (.string ⟨l.toArray⟩)∧KeptBut ((bx b [p,vv r l.length] 296::(vo cI 5 r l++[])).map Prod.fst) w w')→R e w')→(Calls Tryz.prog 204 #[pt b 0] w fun e w'=>e=.returned (.string ⟨l.toArray⟩)∧KeptBut ((bx b [p,vv r l.length] 296::(vo cI 5 r l++[])).map Prod.fst) w w')→Calls Tryz.prog 204 #[pt b 0] w R:=fun h1 z=>z.mono h1
 refine o (fun e w' ⟨he,c⟩=>⟨(),he,F1l hs n c⟩) ?_
 obtain ⟨q,k,j⟩:=r
 cases q with
 | none =>
  have u:l.length=0∧k=0:=f
  have v:l=[]:=List.eq_nil_of_length_eq_zero u.1
  obtain ⟨_,c⟩:=u
  subst v c
  exact E1f b p w hb
 | some g =>
  have a:l.length * 1+j.length=k * 1∧l.length≤k∧k≤maxLen:=f
  have s:=(n.1 (bx g (l.flatMap cI++j) 5) (by simp [vo])).1
  simp only at s
  have d:(l.flatMap cI).length=l.length:=by rw [G3 (sz:=1) (fun _=>rfl)];omega
  cases l with
  | nil =>
   by_cases c:k=0
   ·subst c
    exact D2n b g p _ w hb s
   ·exact D8c b g k p w c hb
  | cons x l =>
   refine D8q b g k p _ (x::l) w oom hb s a.2.1 a.2.2 (by simp only [List.size_toArray,List.length_append,d];omega) ?_
   intro i y m
   have t:=(List.getElem?_eq_some_iff.1 m).1
   rw [List.getElem?_toArray,List.getElem?_append_left (by rw [d];exact t),D6m _ _ t]
   rw [List.getElem?_eq_getElem t] at m
   simp only [Option.some.injEq] at m
   rw [m]
theorem D9s (b:Nat) (v:Value) (a:Option Addr) (h:a=none∨a=some ⟨b,0,none⟩):Con Tryz.prog 239 [pt b 0] [bx b [.pointer a,v] 296] [] Unit (fun _=>.tuple #[]) (fun _=>[bx b [pt b 0,v] 296]) (fun _=>[]):=by
 rcases h with rfl | rfl
 ·exact D8w b v
 ·exact D8r b v
end Go.Proofs.YtgimbmncdmnklaaGreatDoor
namespace Go.Fen
open Go Go.RowKit Go.Sort Go.Proofs
def E9m (g:Nat) (cs:List Value):Pers:=⟨fun h=>∃ T a,h g=some (.cells cs.toArray T a),fun {h h'} hl hp=>let ⟨T,a,e⟩:=hp;⟨T,a,hl g _ e⟩⟩
section
variable {P:Program}
theorem E5o {i:List (String×DataW Unit)} {w:World} {b:String} {g T:Nat} {ds:List (DataW Unit)} (j:(b,.agg ds) ∈ i) (hg:P.globalNamed b=some g) (hT:(P.globals[g]?).map (·.type)=some T)
  {e sz k:Nat} {α:Type} {c:α→List Value} {D:{H:Type}→DataW H→α→Prop} {p:Hp→α→Prop} (hc:Cod P e α c D p) (a2:∀ x,(c x).length=sz) (v:P.cellsOf e=sz) (ht:P.underlying T=some (.array k e)) (a1:P.cellsOf T=k * sz)
  (m:DataW Unit→Option α) (u:∀ d a,D d a→m d=some a) {tab:List α} (s:ds.mapM m=some tab) (h:laidMet P i w):(E9m g (tab.flatMap c)).p (C0t w):=by
 obtain ⟨ps,h,_⟩:=h
 have:∀ (l:List (String×DataW Unit)) (ps:List MemPlace),DataW.LaidVars P w l ps→(b,.agg ds) ∈ l→∃ cs f q,w.var? P b=some cs∧DataW.trod (fun _=>()) P w 0 (fun _=>true) false f T cs.toList=some (.agg ds,q):=by
  intro l
  induction l with
  | nil=>intro ps _ j;cases j
  | cons y r ih =>
   intro ps h j
   obtain ⟨n,d⟩:=y
   obtain ⟨g',t,cs,f,p',q,h1,h2,h3,h4,h5,_⟩:=h
   rcases List.mem_cons.1 j with e | j
   ·simp only [Prod.mk.injEq] at e
    obtain ⟨rfl,rfl⟩:=e
    rw [hg] at h1
    obtain rfl:g=g':=Option.some.inj h1
    rw [hT] at h2
    obtain rfl:T=t:=Option.some.inj h2
    exact ⟨cs,f,p',h3,h4⟩
   ·exact ih q h5 j
 obtain ⟨cs,f,q,o,z⟩:=this i ps h j
 have a0:=D9r hc a2 v ht a1 m u s z
 unfold World.var? at o
 rw [hg] at o
 simp only [Option.bind_some] at o
 split at o
 ·rename_i cs' TT fr hh
  obtain rfl:cs'=cs:=Option.some.inj o
  refine ⟨TT,fr,?_⟩
  rw [← a0]
  exact hh
 ·cases o
end
theorem E5p {P:Program} {f:FuncId} {args:List Value} {Φ:List Pers} {v:Value} (hb:HasBody P f)
  (h:∀ (w:World) (h:Hp),(∀ q ∈ Φ,q.p h)→h.sub w→Calls P f args.toArray w fun e w'=>e=.returned v∧∃ k c,w'=grow (w.drewN k) c):J5 P f args Φ v:=by
 refine ⟨hb,fun w hp hΦ hs ho=>(h w _ hΦ hs).mono fun e w' a=>⟨(),a.1,hp,?_⟩⟩
 obtain ⟨a,k,c,rfl⟩:=a
 refine ⟨fun q l=>(by cases l),fun b o hb=>?_,Hp.le_refl _,fun b hb=>.inl hb,⟨fun e a=>(by cases a),List.nodup_nil⟩,fun e a=>(by cases a),⟨rfl,rfl,rfl,?_,fun b hb _=>?_⟩,fun d j=>(by cases j)⟩
 ·have i:=hs b o hb
  obtain ⟨g,_⟩:=Array.getElem?_eq_some_iff.1 i
  show (w.heap++c)[b]?=some o
  rw [Array.getElem?_append_left g];exact i
 ·show w.heap.size≤(w.heap++c).size
  rw [Array.size_append];omega
 ·show (w.heap++c)[b]?=w.heap[b]?
  exact Array.getElem?_append_left hb
end Go.Fen
namespace Go.Proofs.YtgimbmncdmnklaaGreatDoor
open Go Go.Fen Go.RowKit Go.Sort
def E0h:Go.Shelf.Ren:=⟨fun | 171=>192 | 243=>219 | 246=>246 | 283=>259 | 284=>260 | 285=>261 | 286=>262 | 129=>271 | 317=>270 | 318=>272 | 319=>273 | 320=>274 | 337=>278 | 338=>279 | n=>n,fun | 3=>3 | 9=>9 | 2=>2 | 4=>4 | 171=>350 | 0=>0 | 53=>339 | 37=>98 | 5=>5 | 173=>352 | 212=>360 | 51=>337 | 20=>20 | 213=>361 | 46=>271 | 232=>366 | 233=>367 | n=>n,fun | 17=>4 | 18=>6 | 19=>7 | n=>n⟩
theorem E8y:Go.Proofs.LaysM.n171 Tryz.prog E0h where
 mixed:=by kernel_rfl
 f129:=Tryz.func271.trans (congrArg some oki)
 f171:=Tryz.func192.trans (congrArg some oki)
 f243:=Tryz.func219.trans (congrArg some oki)
 f246:=Tryz.func246.trans (congrArg some oki)
 f283:=Tryz.func259.trans (congrArg some oki)
 f284:=Tryz.func260.trans (congrArg some oki)
 f285:=Tryz.func261.trans (congrArg some oki)
 f286:=Tryz.func262.trans (congrArg some oki)
 f317:=Tryz.func270.trans (congrArg some oki)
 f318:=Tryz.func272.trans (congrArg some oki)
 f319:=Tryz.func273.trans (congrArg some oki)
 f320:=Tryz.func274.trans (congrArg some oki)
 f337:=Tryz.func278.trans (congrArg some oki)
 f338:=Tryz.func279.trans (congrArg some oki)
 t0:=Tryz.underlying0
 a0:=Tryz.isAgg0
 z0:=Tryz.sizeOf0
 v0:=Tryz.zeroValue0
 t2:=Tryz.underlying2
 a2:=Tryz.isAgg2
 z2:=Tryz.sizeOf2
 v2:=Tryz.zeroValue2
 t3:=Tryz.underlying3
 a3:=Tryz.isAgg3
 z3:=Tryz.sizeOf3
 v3:=Tryz.zeroValue3
 t4:=Tryz.underlying4
 a4:=Tryz.isAgg4
 z4:=Tryz.sizeOf4
 v4:=Tryz.zeroValue4
 t5:=Tryz.underlying5
 a5:=Tryz.isAgg5
 z5:=Tryz.sizeOf5
 v5:=Tryz.zeroValue5
 t9:=Tryz.underlying9
 a9:=Tryz.isAgg9
 z9:=Tryz.sizeOf9
 v9:=Tryz.zeroValue9
 t20:=Tryz.underlying20
 a20:=Tryz.isAgg20
 z20:=Tryz.sizeOf20
 v20:=Tryz.zeroValue20
 t37:=Tryz.underlying98
 a37:=Tryz.isAgg98
 z37:=Tryz.sizeOf98
 v37:=Tryz.zeroValue98
 t46:=Tryz.underlying271
 a46:=Tryz.isAgg271
 z46:=Tryz.sizeOf271
 v46:=Tryz.zeroValue271
 t51:=Tryz.underlying337
 a51:=Tryz.isAgg337
 z51:=Tryz.sizeOf337
 v51:=Tryz.zeroValue337
 t53:=Tryz.underlying339
 a53:=Tryz.isAgg339
 z53:=Tryz.sizeOf339
 v53:=Tryz.zeroValue339
 t171:=Tryz.underlying350
 a171:=Tryz.isAgg350
 z171:=Tryz.sizeOf350
 v171:=Tryz.zeroValue350
 t173:=Tryz.underlying352
 a173:=Tryz.isAgg352
 z173:=Tryz.sizeOf352
 v173:=Tryz.zeroValue352
 t212:=Tryz.underlying360
 a212:=Tryz.isAgg360
 z212:=Tryz.sizeOf360
 v212:=Tryz.zeroValue360
 t213:=Tryz.underlying361
 a213:=Tryz.isAgg361
 z213:=Tryz.sizeOf361
 t232:=Tryz.underlying366
 a232:=Tryz.isAgg366
 z232:=Tryz.sizeOf366
 v232:=Tryz.zeroValue366
 t233:=Tryz.underlying367
 a233:=Tryz.isAgg367
 z233:=Tryz.sizeOf367
 v233:=Tryz.zeroValue367
 g17:=by kernel_rfl
 g18:=by kernel_rfl
 g19:=by kernel_rfl
 i0:=by kernel_rfl
 i2:=by kernel_rfl
 i3:=by kernel_rfl
 i4:=by kernel_rfl
 i5:=by kernel_rfl
 i9:=by kernel_rfl
 i20:=by kernel_rfl
 i37:=by kernel_rfl
 i46:=by kernel_rfl
 i51:=by kernel_rfl
 i53:=by kernel_rfl
 i171:=by kernel_rfl
 i173:=by kernel_rfl
 i212:=by kernel_rfl
 i232:=by kernel_rfl
 i233:=by kernel_rfl
 m17:=by kernel_rfl
 m18:=by kernel_rfl
 m19:=by kernel_rfl
def B8d:List Value:=Lib.pow10Tab.map fun z=>Value.int .u64 z
theorem F2b (n:Int) (b:-9223372036854775808≤n∧n≤9223372036854775807):J5 Tryz.prog 192 [iv n] [E9m 4 B8d] (sv (Lib.itoa n)):=by
 refine E5p ⟨by kernel_rfl⟩ fun w h hΦ hs=>?_
 obtain ⟨T,c,e⟩:=hΦ _ (List.mem_cons_self ..)
 have a : Lib.TabIs Tryz.prog w "internal/strconv.uint64pow10" .u64 Lib.pow10Tab := by
  unfold Lib.TabIs World.var?
  rw [show Tryz.prog.globalNamed "internal/strconv.uint64pow10" = some 4 by kernel_rfl]
  show (match w.heap[4]? with | some (.cells cs _ _)=>some cs | _=>none)=_
  rw [hs 4 _ e];rfl
 exact Any.strconv_Itoa E8y n b.1 b.2 w a
theorem D8g (n:Int) (b:-9223372036854775808≤n) (a:n≤9223372036854775807):(Lib.itoa n).length≤21:=Lib.itoa_length_le n b a
end Go.Proofs.YtgimbmncdmnklaaGreatDoor
