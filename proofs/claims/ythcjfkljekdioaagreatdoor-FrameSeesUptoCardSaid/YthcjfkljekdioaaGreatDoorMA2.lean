import Derived.Scope
import Derived.Laws.IdiomStrings
import Derived.ArgAppend
import Derived.Deep.AppendSrc
import Derived.Deep.Upon
import Derived.Laws.MakeOwn
import Derived.Carry
import Derived.ChangeSame
import Derived.ChangeArms
import Derived.ChangeShapes
import Derived.Lib.LaidTab
import Derived.Tactics
import Derived.Tactics2
import Derived.Defers
import Derived.Recover
import Derived.Laws.Pointers
import Derived.Test.YthcjfkljekdioaaGreatDoorProg
import Derived.Lib.Builder
import Derived.Lib.UnsafeStr
import Derived.Laws.Externs
import Derived.WalkKit
import Derived.Shelf.RegionOpenPlain
import Derived.Shelf.Strconv.Itoa3
import Derived.Lib.ItoaLen
import Derived.Test.YthcjfkljekdioaaGreatDoorMA1
set_option linter.unusedVariables false
set_option linter.unusedSimpArgs false
namespace Go.Fen
open Go Go.RowKit
set_option linter.unusedSimpArgs false
set_option linter.unusedVariables false
section
variable {P:Program} {n:Nat} {X:Cx} {K:Act→World→Prop} {Q:Exit→Act→World→Prop} {E E':Env} {L L':Own} {Φ Φ':List Pers}
theorem C6b {α:Type} {f:α→List Value} {q:Option Addr} {xs:List α} {w:World} (hw:StW X L Φ w) (j:Nat) (hΦ:Φ[j]?=some (sl f q xs)) (hl:0<xs.length):∃ a,q=some a :=
 let ⟨_,hp⟩:=hw;C6l (hp.facts _ (List.mem_of_getElem? hΦ)) hl
theorem A4a {ops:Array Oper} {i m:Nat} {α:Type} {f:α→List Value} {q:Option Addr} {xs:List α} (j:Nat) (hΦ:Φ[j]?=some (sl f q xs)) (hl:0<xs.length) (h:∀ a,q=some a→JD P n X ops i m K E L Φ):JD P n X ops i m K E L Φ:=fun a h1 h2 h3=>by
 by_cases hC:∃ w,StW X L Φ w
 ·obtain ⟨w,hw⟩:=hC
  obtain ⟨b,hb⟩:=C6b hw j hΦ hl
  exact h b hb a h1 h2 h3
 ·exact A5j (fun w hw=>hC ⟨w,hw⟩) _ _
theorem C1h {ops:Array Oper} {fuel:Nat} {listed:Array Bool} {held:Y9} {Φs:List Pers} {α:Type} {f:α→List Value} {q:Option Addr} {xs:List α} (j:Nat) (hΦ:Φ[j]?=some (sl f q xs)) (hl:0<xs.length) (h:∀ a,q=some a→JH P n X ops fuel listed K held Φs E L Φ):JH P n X ops fuel listed K held Φs E L Φ :=
 ⟨fun h1 h2 h3 h4 h5 a w hs=>by
  obtain ⟨b,hb⟩:=C6b hs.world j hΦ hl
  exact (h b hb).go h1 h2 h3 h4 h5 a w hs⟩
theorem E8 {o:Oper} {T e sz:Nat} {x y:Operand} {q:Option Addr} {a:Addr} {len cap:Nat} {m:Int} (hT:SlTy P T e sz) (ho:o.op=.indexAddr T x y)
  (hx:ev E x=some (.slice q len cap)) (hq:q=some a) (hy:ev E y=some (.int .i64 m)) (k:Nat) (hk:m=k) (hl:k<len):I9 P X o E L Φ (.pointer (some (a.add (k * sz)))):=by
 subst hq;exact C9i hT ho hx hy k hk hl
theorem G0 {α:Type} {c:α→List Value} {sz:Nat} {q:Option Addr} {a:Addr} {xs:List α} (hq:q=some a) (hc:∀ x,(c x).length=sz) (j:Nat) (h:Φ[j]?=some (sl c q xs)) {k:Nat} {v:α} (hv:xs[k]?=some v):O7 Φ (at_ (a.add (k * sz)) (c v)):=by
 subst hq;exact D5y hc j h hv
theorem A8p {o:Oper} {T e sz:Nat} {ps:Array (Nat×Operand)} (hT:SlTy P T e sz) (ho:o.op=.buildSlice T 0 ps) (hp:ps=#[]) :
  Tri P n X o E L Φ Nat (fun b=>.slice (some ⟨b,0,none⟩) 0 0) (fun b=>bx b [] e::L) (fun _=>Φ):=by
 intro a w K Q hs hk
 subst hp
 refine A3b (by rw [ho];rfl) ?_
 unfold Oper.wp
 rw [show (execOp a.eval o).run P w=.ok (.value (.slice (some ⟨w.heap.size,0,none⟩) 0 0)) (w.alloc (.cells #[] e (0,0))) by
  simp [execOp,ho,Instr.buildSlice,run_underlying hT.ty,hT.run,newRow,Instr.fill,show (Array.range 0)=#[] by simp [Array.range]]]
 exact hk w.heap.size _ (hs.world.alloc _)
theorem StW.sealed {α:Type} {c:α→List Value} {T:Nat} {r:VR} {xs:List α} {pre post:Own} {w:World} {sz:Nat} (hok:VOk sz xs.length r) (h:StW X (pre++(vo c T r xs++post)) Φ w):StW X (pre++post) (sl c (va r.q) xs::Φ) w:=by
 unfold vo at h
 cases hq:r.q with
 | none =>
  rw [hq] at h
  unfold VOk at hok
  rw [hq] at hok
  simp only [List.nil_append] at h
  refine h.fact _ fun p _=>?_
  have:xs=[]:=List.length_eq_zero_iff.1 hok.1
  rw [this];rfl
 | some b =>
  rw [hq] at h
  simp only [List.cons_append,List.nil_append] at h
  have hp:(pre++bx b (xs.flatMap c++r.j) T::post).Perm (bx b (xs.flatMap c++r.j) T::(pre++post)):=List.perm_middle
  have h1:=(h.perm hp).freeze (i:=0) rfl
  refine StW.foll (Φ:=blk b (.cells (xs.flatMap c++r.j).toArray T (0,0))::Φ) h1 fun p hp q hq=>?_
  rcases List.mem_cons.1 hq with rfl | hq
  ·have hb:p b=some (.cells (xs.flatMap c++r.j).toArray T (0,0)):=hp (blk b _) (by simp)
   refine .inr ⟨rfl,_,_,_,hb,fun j v hj=>?_⟩
   simp only [Nat.zero_add,List.getElem?_toArray]
   rw [List.getElem?_append_left (List.getElem?_eq_some_iff.1 hj).1];exact hj
  ·exact hp q (by simp [hq])
theorem S1 {ops:Array Oper} {i m:Nat} {α:Type} {c:α→List Value} {T:Nat} {r:VR} {xs:List α} (pre post:Own) {sz:Nat} (hok:VOk sz xs.length r) (hL:L=pre++(vo c T r xs++post)) (h:JI P n X ops i m K Q E (pre++post) (sl c (va r.q) xs::Φ)):JI P n X ops i m K Q E L Φ :=
 fun a w hs=>h a w ⟨hs.size,hs.defers,hs.has,by have:=hs.world;rw [hL] at this;exact this.sealed hok⟩
theorem C0c {α:Type} {c:α→List Value} {T:Nat} {r:VR} {xs:List α} (pre post:Own) {sz:Nat} (hok:VOk sz xs.length r) (hL:L=pre++(vo c T r xs++post)) (h:JQ n X K E (pre++post) (sl c (va r.q) xs::Φ)):JQ n X K E L Φ :=
 fun a w hs=>h a w ⟨hs.size,hs.defers,hs.has,by have:=hs.world;rw [hL] at this;exact this.sealed hok⟩
theorem A2.dropT (k:Nat) (h:Φ.drop k=Φ'):A2 Φ Φ':=fun p hp q hq=>hp q (by rw [← h] at hq;exact (List.drop_sublist k Φ).subset hq)
theorem D1q {ops:Array Oper} {fuel:Nat} {listed:Array Bool} {held:Y9} {Φs:List Pers} (i:Nat) {o:Oper} {α:Type} {val:α→Value} {L':α→Own} {Φ':α→List Pers} (Lh:Own) (listed':Array Bool) (ho:ops[i]?=some o) (hg:A6h ops o E=some true) (hd:X5 n o.dst=true)
  (hl:listed.setIfInBounds i true=listed') (hl2:listed.setIfInBounds i true=listed') (hh:held.at listed'=Lh) (ht:Tri P n X o E L Φ α val L' Φ') (hL':∀ x,Lh.Sublist (L' x)) (hΦ':∀ x,A2 (Φ' x) Φs) (h:∀ x,JH P n X ops fuel listed' K held Φs (Env.put E o.dst (val x)) (L' x) (Φ' x)) :
  ∀ a w,St n X E L Φ a w→A1w ops=true→Region.noSelect ops=true→listed.size=ops.size→wpOpIn (FW X.rho) 0 P ops (oN K) i (fun a' w'=>((listed.setIfInBounds i true).size=ops.size∧StW X (held.at (listed.setIfInBounds i true)) Φs w')∧AH X.rho P ops (oN K) (fun l w=>l.size=ops.size∧StW X (held.at l) Φs w) fuel (listed.setIfInBounds i true) a' w') a w:=by
 subst hl hh
 exact C8t i ho hg hd ht hL' hΦ' h
theorem StW.fix {w:World} {i b T:Nat} {cs:List Value} (hi:L[i]?=some (bx b cs T)) (h:StW X L Φ w):StW X (L.eraseIdx i) (at_ ⟨b,0,none⟩ cs::Φ) w :=
 (h.freeze hi).foll fun p hp q hq=>by
  rcases List.mem_cons.1 hq with rfl | hq
  ·have hb:p b=some (.cells cs.toArray T (0,0)):=hp (blk b (.cells cs.toArray T (0,0))) (by simp)
   exact .inr ⟨rfl,_,_,_,hb,fun j v hj=>by simpa using hj⟩
  ·exact hp q (by simp [hq])
theorem C8b {ops:Array Oper} {i m:Nat} (k:Nat) {b T:Nat} {cs:List Value} (hi:L[k]?=some (bx b cs T)) (h:JI P n X ops i m K Q E (L.eraseIdx k) (at_ ⟨b,0,none⟩ cs::Φ)):JI P n X ops i m K Q E L Φ :=
 fun a w hs=>h a w ⟨hs.size,hs.defers,hs.has,hs.world.fix hi⟩
theorem D5z {c':Code} {α:Type} {c:α→List Value} {q:Option Addr} {xs:List α} (j:Nat) (hΦ:Φ[j]?=some (sl c q xs)) (hq:q=none) (h:xs=[]→J P n X c' Q E L Φ):J P n X c' Q E L Φ:=fun a w hs=>by
 obtain ⟨p,hp⟩:=hs.world
 have:=hp.facts _ (List.mem_of_getElem? hΦ)
 subst hq
 exact h this a w hs
theorem H2 {o:Oper} {c:Call} {fv:Operand} {k:FuncId} {first cap:Array Value} {vs args:List Value} {L0 L2:Own} {Φ0:List Pers} {α:Type} {val:α→Value} {L1:α→Own} {Φ1:α→List Pers}
  (hcon:Con P k args L0 Φ0 α val L1 Φ1) (ho:o.op=.call c) (hc:c.callee=.value fv) (hf:ev E fv=some (.func (.func k) first cap)) (hargs:c.args.toList.mapM (ev E)=some vs) (ha:(first++vs.toArray++cap).toList=args)
  (hΦ:A2 Φ Φ0) (hL:L.Perm (L0++L2)) (L':α→Own) (hL':∀ x,L1 x++L2=L' x):Tri P n X o E L Φ α val L' (fun x=>Φ1 x++Φ):=by
 obtain rfl:(fun x=>L1 x++L2)=L':=funext hL'
 exact C3b hcon ho hc hf hargs ha hΦ hL
theorem A2e {b:Frame} {a:Act} {k:List Item} {cs:List Frame} {w:World} {c:Code}:step P (lone (b.atR a (.code (.scope c)::k)) cs w)=.next (lone (b.atR a (.code c::.inScope c::k)) cs w) :=
 step_lone_go (by simp [stepG,stepG.exec,Frame.atR])
theorem B7x {b:Frame} {a:Act} {k:List Item} {cs:List Frame} {w:World} {c:Code}:step P (lone (b.atR a (.inScope c::k)) cs w)=.next (lone (b.atR a k) cs w) :=
 step_lone_go (by simp [stepG,stepG.exec,Frame.atR])
theorem C5i {F:Fence} {m:Nat} {c:Code} {a:Act} {w:World} (h:c.wpIn F m P (Exit.noGoto Q) a w):(Code.scope c).wpIn F m P Q a w:=by
 intro b k cs hro hb hr
 have h0:(lone (b.atR a (.code (.scope c)::k)) cs w).fenced P F:=fenced_calm hb hr rfl
 obtain ⟨e,a₁,w₁,hq,harr⟩:=h b (.inScope c::k) cs hro hb hr
 cases e with
 | normal=>exact ⟨.normal,a₁,w₁,hq,.head h0 A2e (StepsIn.trans harr (.one (fenced_calm hb hr rfl) B7x))⟩
 | exit id =>
  have hx:exitTo id (.inScope c::k)=exitTo id k:=by simp [exitTo]
  exact ⟨.exit id,a₁,w₁,hq,fun k' hk=>.head h0 A2e (harr.1 k' (by rw [hx];exact hk)),
   fun hr' hk=>let ⟨k₁,h1,h2⟩:=harr.2 hr' (by rw [hx];exact hk);⟨k₁,h1,.head h0 A2e h2⟩⟩
 | goto l=>exact hq.elim
 | ret=>exact ⟨_,a₁,w₁,hq,.of_steps (.one h0 A2e) harr⟩
 | panic ch=>exact ⟨_,a₁,w₁,hq,.of_steps (.one h0 A2e) harr⟩
 | outgrown=>exact ⟨_,a₁,w₁,hq,.of_steps (.one h0 A2e) harr⟩
theorem D0o {c:Code} (h:J P n X c (Exit.noGoto Q) E L Φ):J P n X (.scope c) Q E L Φ:=fun a w hs=>C5i (h a w hs)
theorem D1l {l:Nat} (h:JQ n X (Q .normal) E L Φ):J P n X (.label l) Q E L Φ:=fun a w hs=>wpIn_label (h a w hs)
theorem B5s {ops:Array Oper} {i m:Nat} (hΦ:A2 Φ Φ') (h:JI P n X ops i m K Q E L Φ'):JI P n X ops i m K Q E L Φ:=fun a w hs=>h a w ⟨hs.size,hs.defers,hs.has,hs.world.foll hΦ⟩
theorem A2.yield (fs:List Pers) {A B:List Pers}:A2 (A++(fs++B)) (fs++A):=fun p hp q hq=>hp q (by
 rcases List.mem_append.1 hq with h | h
 ·exact List.mem_append_right _ (List.mem_append_left _ h)
 ·exact List.mem_append_left _ h)
theorem C3s {α:Type} {l:List α}:∀ {cs:List (List α)},l ∈ cs→l.Sublist cs.flatten
 | [],h=>by cases h
 | c::cs,h=>by
  rw [List.flatten_cons]
  rcases List.mem_cons.1 h with rfl | h
  ·exact List.sublist_append_left _ _
  ·exact (C3s h).trans (List.sublist_append_right _ _)
theorem mcT (cs:List Fen.Own) (i:Nat) (h1:L=cs.flatten) (h2:cs[i]?=some L'):L'.Sublist L:=by
 subst h1;exact C3s (List.mem_of_getElem? h2)
theorem B3y {Y:Cx} {β σ:Type} {I:List β→σ→Prop} {Jx:Code→σ→Prop} {Lk:σ→Own} {Φk:σ→List Pers} {rest:List β} (s:σ) (hI:I rest s) (hL:(Lk s).Sublist L) (hΦ:A2 Φ (Φk s)):JQ n Y (RP Y I Jx Lk Φk rest .normal) E L Φ :=
 fun a w hs=>⟨s,hI,(hs.world.sub hL).foll hΦ⟩
end
end Go.Fen
set_option linter.unusedVariables false
set_option linter.unusedSimpArgs false
namespace Go.Fen
open Go Go.RowKit
set_option linter.unusedSimpArgs false
set_option linter.unusedVariables false
section
variable {P:Program} {n:Nat} {X:Cx} {K:Act→World→Prop} {Q:Exit→Act→World→Prop} {E E':Env} {L L':Own} {Φ Φ':List Pers}
def A0o (ds:List (Nat×Obj)):Prop:=(ds.map Prod.fst).Nodup∧∀ d ∈ ds,d.2=.deferred (some [])
theorem A0o.nil:A0o []:=⟨List.nodup_nil,fun d hd=>by cases hd⟩
theorem A0o.cons {d:Nat} {ds:List (Nat×Obj)} (h:A0o ds) (hd:d ∉ ds.map Prod.fst):A0o ((d,.deferred (some []))::ds) :=
 ⟨by rw [List.map_cons,List.nodup_cons];exact ⟨hd,h.1⟩,fun e he=>by
  rcases List.mem_cons.1 he with rfl | he
  ·rfl
  ·exact h.2 e he⟩
end
end Go.Fen
set_option linter.unusedVariables false
set_option linter.unusedSimpArgs false
namespace Go.Fen
open Go Go.RowKit
set_option linter.unusedSimpArgs false
set_option linter.unusedVariables false
def C4 (s:Slc):List Value:=[.slice s.q s.n s.k]
def G5 {α:Type} (c:α→List Value) (rs:List Slc) (xss:List (List α)):Pers:=⟨fun h=>∀ (i:Nat) r xs,rs[i]?=some r→xss[i]?=some xs→(sl c r.q xs).p h,fun {h h'} hl hp i r xs h1 h2=>(sl c r.q xs).mono hl (hp i r xs h1 h2)⟩
def C7 {α:Type} (rs:List Slc) (xss:List (List α)):Prop:=rs.length=xss.length∧∀ (i:Nat) r xs,rs[i]?=some r→xss[i]?=some xs→r.n=xs.length∧r.n≤r.k∧xs.length≤9223372036854775807
section
variable {P:Program} {n:Nat} {X:Cx} {K:Act→World→Prop} {Q:Exit→Act→World→Prop} {E E':Env} {L L':Own} {Φ Φ':List Pers}
theorem D0l {α:Type} {c:α→List Value} {rs:List Slc} {xss:List (List α)} (j:Nat) (h:Φ[j]?=some (G5 c rs xss)) {i:Nat} {r:Slc} {xs:List α} (hr:rs[i]?=some r) (hx:xss[i]?=some xs):O7 Φ (sl c r.q xs) :=
 fun p hp=>hp _ (List.mem_of_getElem? h) i r xs hr hx
theorem W7 (hp:L.Perm L') (h:JQ n X K E L' Φ):JQ n X K E L Φ:=fun a w hs=>h a w ⟨hs.size,hs.defers,hs.has,hs.world.perm hp⟩
theorem B2o {c:Code} {q:Pers} (hq:O7 Φ q) (h:J P n X c Q E L (q::Φ)):J P n X c Q E L Φ:=D3u q hq h
theorem H6 {ops:Array Oper} {i m:Nat} {q:Pers} (hq:O7 Φ q) (h:JI P n X ops i m K Q E L (q::Φ)):JI P n X ops i m K Q E L Φ:=D1p q hq h
theorem A4g {ops:Array Oper} {i m:Nat} {q:Pers} (hq:O7 Φ q) (h:JD P n X ops i m K E L (q::Φ)):JD P n X ops i m K E L Φ:=by
 intro a h1 h2 h3
 have e:StW X L (q::Φ)=StW X L Φ:=by
  funext w
  refine propext ⟨fun hw=>hw.foll fun p hp q hq=>hp q (List.mem_cons_of_mem _ hq),fun hw=>hw.fact q hq⟩
 have:=h a h1 h2 h3
 rw [e] at this
 exact this
end
end Go.Fen
set_option linter.unusedVariables false
set_option linter.unusedSimpArgs false
namespace Go.Fen
open Go Go.RowKit
theorem bt {ρ:Type} {c:Bool} {a b R:ρ} (h:(bif c then a else b)=R) (hc:c=true):a=R:=by rw [hc] at h;exact h
theorem bf {ρ:Type} {c:Bool} {a b R:ρ} (h:(bif c then a else b)=R) (hc:c=false):b=R:=by rw [hc] at h;exact h
theorem gd {α:Type} {xs:List α} {k:Nat} (d:α) (h:k<xs.length):xs[k]?=some (xs.getD k d):=by
 rw [List.getElem?_eq_getElem h];simp [h]
theorem U1 {α:Type} {xs:List α} {k:Nat} (d:α) (h:k<xs.length):xs.drop k=xs.getD k d::xs.drop (k+1):=by
 rw [List.drop_eq_getElem_cons h];congr 1;simp [h]
theorem U2 {α:Type} {xs:List α} {k:Nat} (h:¬ ((k:Int)<(xs.length:Int))):xs.drop k=[]:=List.drop_eq_nil_of_le (by omega)
section
variable {P:Program} {n:Nat} {X:Cx} {K:Act→World→Prop} {Q:Exit→Act→World→Prop} {E E':Env} {L L':Own} {Φ Φ':List Pers}
theorem C0y {x y:Code} {β:Type} (I:β→Prop) (Ei:β→Env) (Li:β→Own) (Φi:β→List Pers)
  (hx:J P n X x (Exit.then (fun a w=>∃ y,I y∧St n X (Ei y) (Li y) (Φi y) a w) Q) E L Φ) (hy:∀ z,I z→J P n X y Q (Ei z) (Li z) (Φi z)):J P n X (.seq x y) Q E L Φ :=
 fun a w hs=>wpIn_seq (Code.wpIn_mono (fun e a w q=>by
  cases e with
  | normal=>obtain ⟨z,h1,h2⟩:=q;exact hy z h1 a w h2
  | _=>exact q) (hx a w hs))
theorem JL1 {c:Code} {β1:Type} (I:β1→Prop) (Ei:β1→Env) (Li:β1→Own) (Φi:β1→List Pers) (μ:β1→Nat) (x1:β1) (hI:I x1) (hE:J0 E (Ei x1)) (hL:(Li x1).Sublist L) (hΦ:A2 Φ (Φi x1))
  (h:∀ x1,I x1→J P n X c (Exit.then (fun a w=>∃ y1,I y1∧μ y1<μ x1∧St n X (Ei y1) (Li y1) (Φi y1) a w) Q) (Ei x1) (Li x1) (Φi x1)):J P n X (.loop c) Q E L Φ :=
 B2b (β:=β1) (fun x=>I x) (fun x=>Ei x) (fun x=>Li x) (fun x=>Φi x) (fun x=>μ x) x1 hI hE hL hΦ fun x hx a w hs=>Code.wpIn_mono (fun e a w q=>by
  cases e with
  | normal=>obtain ⟨y1,h1,h2,h3⟩:=q;exact ⟨y1,h1,h2,h3⟩
  | _=>exact q) (h x hx a w hs)
theorem JS1 {x y:Code} {β1:Type} (I:β1→Prop) (Ei:β1→Env) (Li:β1→Own) (Φi:β1→List Pers)
  (hx:J P n X x (Exit.then (fun a w=>∃ y1,I y1∧St n X (Ei y1) (Li y1) (Φi y1) a w) Q) E L Φ) (hy:∀ x1,I x1→J P n X y Q (Ei x1) (Li x1) (Φi x1)):J P n X (.seq x y) Q E L Φ :=
 C0y (β:=β1) (fun x=>I x) (fun x=>Ei x) (fun x=>Li x) (fun x=>Φi x) (fun a w hs=>Code.wpIn_mono (fun e a w q=>by
  cases e with
  | normal=>obtain ⟨y1,h1,h2⟩:=q;exact ⟨y1,h1,h2⟩
  | _=>exact q) (hx a w hs)) fun x hI=>hy x hI
theorem JL2 {c:Code} {β1 β2:Type} (I:β1→β2→Prop) (Ei:β1→β2→Env) (Li:β1→β2→Own) (Φi:β1→β2→List Pers) (μ:β1→β2→Nat) (x1:β1) (x2:β2) (hI:I x1 x2) (hE:J0 E (Ei x1 x2)) (hL:(Li x1 x2).Sublist L) (hΦ:A2 Φ (Φi x1 x2))
  (h:∀ x1 x2,I x1 x2→J P n X c (Exit.then (fun a w=>∃ y1 y2,I y1 y2∧μ y1 y2<μ x1 x2∧St n X (Ei y1 y2) (Li y1 y2) (Φi y1 y2) a w) Q) (Ei x1 x2) (Li x1 x2) (Φi x1 x2)):J P n X (.loop c) Q E L Φ :=
 B2b (β:=β1×β2) (fun x=>I x.1 x.2) (fun x=>Ei x.1 x.2) (fun x=>Li x.1 x.2) (fun x=>Φi x.1 x.2) (fun x=>μ x.1 x.2) (x1,x2) hI hE hL hΦ fun x hx a w hs=>Code.wpIn_mono (fun e a w q=>by
  cases e with
  | normal=>obtain ⟨y1,y2,h1,h2,h3⟩:=q;exact ⟨(y1,y2),h1,h2,h3⟩
  | _=>exact q) (h x.1 x.2 hx a w hs)
theorem JL3 {c:Code} {β1 β2 β3:Type} (I:β1→β2→β3→Prop) (Ei:β1→β2→β3→Env) (Li:β1→β2→β3→Own) (Φi:β1→β2→β3→List Pers) (μ:β1→β2→β3→Nat) (x1:β1) (x2:β2) (x3:β3) (hI:I x1 x2 x3) (hE:J0 E (Ei x1 x2 x3)) (hL:(Li x1 x2 x3).Sublist L) (hΦ:A2 Φ (Φi x1 x2 x3))
  (h:∀ x1 x2 x3,I x1 x2 x3→J P n X c (Exit.then (fun a w=>∃ y1 y2 y3,I y1 y2 y3∧μ y1 y2 y3<μ x1 x2 x3∧St n X (Ei y1 y2 y3) (Li y1 y2 y3) (Φi y1 y2 y3) a w) Q) (Ei x1 x2 x3) (Li x1 x2 x3) (Φi x1 x2 x3)):J P n X (.loop c) Q E L Φ :=
 B2b (β:=β1×β2×β3) (fun x=>I x.1 x.2.1 x.2.2) (fun x=>Ei x.1 x.2.1 x.2.2) (fun x=>Li x.1 x.2.1 x.2.2) (fun x=>Φi x.1 x.2.1 x.2.2) (fun x=>μ x.1 x.2.1 x.2.2) (x1,x2,x3) hI hE hL hΦ fun x hx a w hs=>Code.wpIn_mono (fun e a w q=>by
  cases e with
  | normal=>obtain ⟨y1,y2,y3,h1,h2,h3⟩:=q;exact ⟨(y1,y2,y3),h1,h2,h3⟩
  | _=>exact q) (h x.1 x.2.1 x.2.2 hx a w hs)
theorem JS3 {x y:Code} {β1 β2 β3:Type} (I:β1→β2→β3→Prop) (Ei:β1→β2→β3→Env) (Li:β1→β2→β3→Own) (Φi:β1→β2→β3→List Pers)
  (hx:J P n X x (Exit.then (fun a w=>∃ y1 y2 y3,I y1 y2 y3∧St n X (Ei y1 y2 y3) (Li y1 y2 y3) (Φi y1 y2 y3) a w) Q) E L Φ) (hy:∀ x1 x2 x3,I x1 x2 x3→J P n X y Q (Ei x1 x2 x3) (Li x1 x2 x3) (Φi x1 x2 x3)):J P n X (.seq x y) Q E L Φ :=
 C0y (β:=β1×β2×β3) (fun x=>I x.1 x.2.1 x.2.2) (fun x=>Ei x.1 x.2.1 x.2.2) (fun x=>Li x.1 x.2.1 x.2.2) (fun x=>Φi x.1 x.2.1 x.2.2) (fun a w hs=>Code.wpIn_mono (fun e a w q=>by
  cases e with
  | normal=>obtain ⟨y1,y2,y3,h1,h2⟩:=q;exact ⟨(y1,y2,y3),h1,h2⟩
  | _=>exact q) (hx a w hs)) fun x hI=>hy x.1 x.2.1 x.2.2 hI
theorem JL4 {c:Code} {β1 β2 β3 β4:Type} (I:β1→β2→β3→β4→Prop) (Ei:β1→β2→β3→β4→Env) (Li:β1→β2→β3→β4→Own) (Φi:β1→β2→β3→β4→List Pers) (μ:β1→β2→β3→β4→Nat) (x1:β1) (x2:β2) (x3:β3) (x4:β4) (hI:I x1 x2 x3 x4) (hE:J0 E (Ei x1 x2 x3 x4)) (hL:(Li x1 x2 x3 x4).Sublist L) (hΦ:A2 Φ (Φi x1 x2 x3 x4))
  (h:∀ x1 x2 x3 x4,I x1 x2 x3 x4→J P n X c (Exit.then (fun a w=>∃ y1 y2 y3 y4,I y1 y2 y3 y4∧μ y1 y2 y3 y4<μ x1 x2 x3 x4∧St n X (Ei y1 y2 y3 y4) (Li y1 y2 y3 y4) (Φi y1 y2 y3 y4) a w) Q) (Ei x1 x2 x3 x4) (Li x1 x2 x3 x4) (Φi x1 x2 x3 x4)):J P n X (.loop c) Q E L Φ :=
 B2b (β:=β1×β2×β3×β4) (fun x=>I x.1 x.2.1 x.2.2.1 x.2.2.2) (fun x=>Ei x.1 x.2.1 x.2.2.1 x.2.2.2) (fun x=>Li x.1 x.2.1 x.2.2.1 x.2.2.2) (fun x=>Φi x.1 x.2.1 x.2.2.1 x.2.2.2) (fun x=>μ x.1 x.2.1 x.2.2.1 x.2.2.2) (x1,x2,x3,x4) hI hE hL hΦ fun x hx a w hs=>Code.wpIn_mono (fun e a w q=>by
  cases e with
  | normal=>obtain ⟨y1,y2,y3,y4,h1,h2,h3⟩:=q;exact ⟨(y1,y2,y3,y4),h1,h2,h3⟩
  | _=>exact q) (h x.1 x.2.1 x.2.2.1 x.2.2.2 hx a w hs)
theorem JS4 {x y:Code} {β1 β2 β3 β4:Type} (I:β1→β2→β3→β4→Prop) (Ei:β1→β2→β3→β4→Env) (Li:β1→β2→β3→β4→Own) (Φi:β1→β2→β3→β4→List Pers)
  (hx:J P n X x (Exit.then (fun a w=>∃ y1 y2 y3 y4,I y1 y2 y3 y4∧St n X (Ei y1 y2 y3 y4) (Li y1 y2 y3 y4) (Φi y1 y2 y3 y4) a w) Q) E L Φ) (hy:∀ x1 x2 x3 x4,I x1 x2 x3 x4→J P n X y Q (Ei x1 x2 x3 x4) (Li x1 x2 x3 x4) (Φi x1 x2 x3 x4)):J P n X (.seq x y) Q E L Φ :=
 C0y (β:=β1×β2×β3×β4) (fun x=>I x.1 x.2.1 x.2.2.1 x.2.2.2) (fun x=>Ei x.1 x.2.1 x.2.2.1 x.2.2.2) (fun x=>Li x.1 x.2.1 x.2.2.1 x.2.2.2) (fun x=>Φi x.1 x.2.1 x.2.2.1 x.2.2.2) (fun a w hs=>Code.wpIn_mono (fun e a w q=>by
  cases e with
  | normal=>obtain ⟨y1,y2,y3,y4,h1,h2⟩:=q;exact ⟨(y1,y2,y3,y4),h1,h2⟩
  | _=>exact q) (hx a w hs)) fun x hI=>hy x.1 x.2.1 x.2.2.1 x.2.2.2 hI
theorem JL5 {c:Code} {β1 β2 β3 β4 β5:Type} (I:β1→β2→β3→β4→β5→Prop) (Ei:β1→β2→β3→β4→β5→Env) (Li:β1→β2→β3→β4→β5→Own) (Φi:β1→β2→β3→β4→β5→List Pers) (μ:β1→β2→β3→β4→β5→Nat) (x1:β1) (x2:β2) (x3:β3) (x4:β4) (x5:β5) (hI:I x1 x2 x3 x4 x5) (hE:J0 E (Ei x1 x2 x3 x4 x5)) (hL:(Li x1 x2 x3 x4 x5).Sublist L) (hΦ:A2 Φ (Φi x1 x2 x3 x4 x5))
  (h:∀ x1 x2 x3 x4 x5,I x1 x2 x3 x4 x5→J P n X c (Exit.then (fun a w=>∃ y1 y2 y3 y4 y5,I y1 y2 y3 y4 y5∧μ y1 y2 y3 y4 y5<μ x1 x2 x3 x4 x5∧St n X (Ei y1 y2 y3 y4 y5) (Li y1 y2 y3 y4 y5) (Φi y1 y2 y3 y4 y5) a w) Q) (Ei x1 x2 x3 x4 x5) (Li x1 x2 x3 x4 x5) (Φi x1 x2 x3 x4 x5)):J P n X (.loop c) Q E L Φ :=
 B2b (β:=β1×β2×β3×β4×β5) (fun x=>I x.1 x.2.1 x.2.2.1 x.2.2.2.1 x.2.2.2.2) (fun x=>Ei x.1 x.2.1 x.2.2.1 x.2.2.2.1 x.2.2.2.2) (fun x=>Li x.1 x.2.1 x.2.2.1 x.2.2.2.1 x.2.2.2.2) (fun x=>Φi x.1 x.2.1 x.2.2.1 x.2.2.2.1 x.2.2.2.2) (fun x=>μ x.1 x.2.1 x.2.2.1 x.2.2.2.1 x.2.2.2.2) (x1,x2,x3,x4,x5) hI hE hL hΦ fun x hx a w hs=>Code.wpIn_mono (fun e a w q=>by
  cases e with
  | normal=>obtain ⟨y1,y2,y3,y4,y5,h1,h2,h3⟩:=q;exact ⟨(y1,y2,y3,y4,y5),h1,h2,h3⟩
  | _=>exact q) (h x.1 x.2.1 x.2.2.1 x.2.2.2.1 x.2.2.2.2 hx a w hs)
theorem JL6 {c:Code} {β1 β2 β3 β4 β5 β6:Type} (I:β1→β2→β3→β4→β5→β6→Prop) (Ei:β1→β2→β3→β4→β5→β6→Env) (Li:β1→β2→β3→β4→β5→β6→Own) (Φi:β1→β2→β3→β4→β5→β6→List Pers) (μ:β1→β2→β3→β4→β5→β6→Nat) (x1:β1) (x2:β2) (x3:β3) (x4:β4) (x5:β5) (x6:β6) (hI:I x1 x2 x3 x4 x5 x6) (hE:J0 E (Ei x1 x2 x3 x4 x5 x6)) (hL:(Li x1 x2 x3 x4 x5 x6).Sublist L) (hΦ:A2 Φ (Φi x1 x2 x3 x4 x5 x6))
  (h:∀ x1 x2 x3 x4 x5 x6,I x1 x2 x3 x4 x5 x6→J P n X c (Exit.then (fun a w=>∃ y1 y2 y3 y4 y5 y6,I y1 y2 y3 y4 y5 y6∧μ y1 y2 y3 y4 y5 y6<μ x1 x2 x3 x4 x5 x6∧St n X (Ei y1 y2 y3 y4 y5 y6) (Li y1 y2 y3 y4 y5 y6) (Φi y1 y2 y3 y4 y5 y6) a w) Q) (Ei x1 x2 x3 x4 x5 x6) (Li x1 x2 x3 x4 x5 x6) (Φi x1 x2 x3 x4 x5 x6)):J P n X (.loop c) Q E L Φ :=
 B2b (β:=β1×β2×β3×β4×β5×β6) (fun x=>I x.1 x.2.1 x.2.2.1 x.2.2.2.1 x.2.2.2.2.1 x.2.2.2.2.2) (fun x=>Ei x.1 x.2.1 x.2.2.1 x.2.2.2.1 x.2.2.2.2.1 x.2.2.2.2.2) (fun x=>Li x.1 x.2.1 x.2.2.1 x.2.2.2.1 x.2.2.2.2.1 x.2.2.2.2.2) (fun x=>Φi x.1 x.2.1 x.2.2.1 x.2.2.2.1 x.2.2.2.2.1 x.2.2.2.2.2) (fun x=>μ x.1 x.2.1 x.2.2.1 x.2.2.2.1 x.2.2.2.2.1 x.2.2.2.2.2) (x1,x2,x3,x4,x5,x6) hI hE hL hΦ fun x hx a w hs=>Code.wpIn_mono (fun e a w q=>by
  cases e with
  | normal=>obtain ⟨y1,y2,y3,y4,y5,y6,h1,h2,h3⟩:=q;exact ⟨(y1,y2,y3,y4,y5,y6),h1,h2,h3⟩
  | _=>exact q) (h x.1 x.2.1 x.2.2.1 x.2.2.2.1 x.2.2.2.2.1 x.2.2.2.2.2 hx a w hs)
theorem JL7 {c:Code} {β1 β2 β3 β4 β5 β6 β7:Type} (I:β1→β2→β3→β4→β5→β6→β7→Prop) (Ei:β1→β2→β3→β4→β5→β6→β7→Env) (Li:β1→β2→β3→β4→β5→β6→β7→Own) (Φi:β1→β2→β3→β4→β5→β6→β7→List Pers) (μ:β1→β2→β3→β4→β5→β6→β7→Nat) (x1:β1) (x2:β2) (x3:β3) (x4:β4) (x5:β5) (x6:β6) (x7:β7) (hI:I x1 x2 x3 x4 x5 x6 x7) (hE:J0 E (Ei x1 x2 x3 x4 x5 x6 x7)) (hL:(Li x1 x2 x3 x4 x5 x6 x7).Sublist L) (hΦ:A2 Φ (Φi x1 x2 x3 x4 x5 x6 x7))
  (h:∀ x1 x2 x3 x4 x5 x6 x7,I x1 x2 x3 x4 x5 x6 x7→J P n X c (Exit.then (fun a w=>∃ y1 y2 y3 y4 y5 y6 y7,I y1 y2 y3 y4 y5 y6 y7∧μ y1 y2 y3 y4 y5 y6 y7<μ x1 x2 x3 x4 x5 x6 x7∧St n X (Ei y1 y2 y3 y4 y5 y6 y7) (Li y1 y2 y3 y4 y5 y6 y7) (Φi y1 y2 y3 y4 y5 y6 y7) a w) Q) (Ei x1 x2 x3 x4 x5 x6 x7) (Li x1 x2 x3 x4 x5 x6 x7) (Φi x1 x2 x3 x4 x5 x6 x7)):J P n X (.loop c) Q E L Φ :=
 B2b (β:=β1×β2×β3×β4×β5×β6×β7) (fun x=>I x.1 x.2.1 x.2.2.1 x.2.2.2.1 x.2.2.2.2.1 x.2.2.2.2.2.1 x.2.2.2.2.2.2) (fun x=>Ei x.1 x.2.1 x.2.2.1 x.2.2.2.1 x.2.2.2.2.1 x.2.2.2.2.2.1 x.2.2.2.2.2.2) (fun x=>Li x.1 x.2.1 x.2.2.1 x.2.2.2.1 x.2.2.2.2.1 x.2.2.2.2.2.1 x.2.2.2.2.2.2) (fun x=>Φi x.1 x.2.1 x.2.2.1 x.2.2.2.1 x.2.2.2.2.1 x.2.2.2.2.2.1 x.2.2.2.2.2.2) (fun x=>μ x.1 x.2.1 x.2.2.1 x.2.2.2.1 x.2.2.2.2.1 x.2.2.2.2.2.1 x.2.2.2.2.2.2) (x1,x2,x3,x4,x5,x6,x7) hI hE hL hΦ fun x hx a w hs=>Code.wpIn_mono (fun e a w q=>by
  cases e with
  | normal=>obtain ⟨y1,y2,y3,y4,y5,y6,y7,h1,h2,h3⟩:=q;exact ⟨(y1,y2,y3,y4,y5,y6,y7),h1,h2,h3⟩
  | _=>exact q) (h x.1 x.2.1 x.2.2.1 x.2.2.2.1 x.2.2.2.2.1 x.2.2.2.2.2.1 x.2.2.2.2.2.2 hx a w hs)
theorem JS7 {x y:Code} {β1 β2 β3 β4 β5 β6 β7:Type} (I:β1→β2→β3→β4→β5→β6→β7→Prop) (Ei:β1→β2→β3→β4→β5→β6→β7→Env) (Li:β1→β2→β3→β4→β5→β6→β7→Own) (Φi:β1→β2→β3→β4→β5→β6→β7→List Pers)
  (hx:J P n X x (Exit.then (fun a w=>∃ y1 y2 y3 y4 y5 y6 y7,I y1 y2 y3 y4 y5 y6 y7∧St n X (Ei y1 y2 y3 y4 y5 y6 y7) (Li y1 y2 y3 y4 y5 y6 y7) (Φi y1 y2 y3 y4 y5 y6 y7) a w) Q) E L Φ) (hy:∀ x1 x2 x3 x4 x5 x6 x7,I x1 x2 x3 x4 x5 x6 x7→J P n X y Q (Ei x1 x2 x3 x4 x5 x6 x7) (Li x1 x2 x3 x4 x5 x6 x7) (Φi x1 x2 x3 x4 x5 x6 x7)):J P n X (.seq x y) Q E L Φ :=
 C0y (β:=β1×β2×β3×β4×β5×β6×β7) (fun x=>I x.1 x.2.1 x.2.2.1 x.2.2.2.1 x.2.2.2.2.1 x.2.2.2.2.2.1 x.2.2.2.2.2.2) (fun x=>Ei x.1 x.2.1 x.2.2.1 x.2.2.2.1 x.2.2.2.2.1 x.2.2.2.2.2.1 x.2.2.2.2.2.2) (fun x=>Li x.1 x.2.1 x.2.2.1 x.2.2.2.1 x.2.2.2.2.1 x.2.2.2.2.2.1 x.2.2.2.2.2.2) (fun x=>Φi x.1 x.2.1 x.2.2.1 x.2.2.2.1 x.2.2.2.2.1 x.2.2.2.2.2.1 x.2.2.2.2.2.2) (fun a w hs=>Code.wpIn_mono (fun e a w q=>by
  cases e with
  | normal=>obtain ⟨y1,y2,y3,y4,y5,y6,y7,h1,h2⟩:=q;exact ⟨(y1,y2,y3,y4,y5,y6,y7),h1,h2⟩
  | _=>exact q) (hx a w hs)) fun x hI=>hy x.1 x.2.1 x.2.2.1 x.2.2.2.1 x.2.2.2.2.1 x.2.2.2.2.2.1 x.2.2.2.2.2.2 hI
end
end Go.Fen
set_option linter.unusedVariables false
set_option linter.unusedSimpArgs false
namespace Go.Fen
open Go Go.RowKit
def K8 (n:Int):List Value:=[.int .i64 n]
def cU8 (b:UInt8):List Value:=[.int .u8 (b.toNat:Int)]
def D3b (s:List UInt8):List Value:=[.string (bs s)]
def F4 (b:Bool):List Value:=[.bool b]
def by8 (n:Int):UInt8:=UInt8.ofNat n.toNat
theorem D1z (b:UInt8):(b.toNat:Int)≤255:=by have:=b.toNat_lt;omega
theorem A1d (b:UInt8):IntKind.i64.wrap (b.toNat:Int)=b.toNat:=A4b (by show (-9223372036854775808:Int)≤_;omega) (by have:=D1z b;show _≤(9223372036854775807:Int);omega)
theorem B9f {n:Int} (h:0≤n∧n≤255):((by8 n).toNat:Int)=n:=by
 unfold by8;rw [UInt8.toNat_ofNat'];omega
theorem C6i {α:Type} {x:α} {e R:List α} (h:x::e=R):∃ R',e=R'∧R=x::R':=⟨e,rfl,h.symm⟩
section
variable {P:Program} {n:Nat} {X:Cx} {K:Act→World→Prop} {Q:Exit→Act→World→Prop} {E E':Env} {L L':Own} {Φ Φ':List Pers}
theorem P2 {α:Type} {c:α→List Value}:O7 Φ (sl c none []):=fun _ _=>rfl
theorem C5w (a b:List UInt8):(a == b)=decide (a=b):=by
 by_cases h:a=b<;>simp [h]
theorem C5n (a:List UInt8):(bs a).size=a.length:=rfl
theorem B6z {o:Oper} {T U:TypeId} {x y:Operand} {a b:List UInt8} (ho:o.op=.binOp .eql T x y U) (hx:ev E x=some (.string (bs a))) (hy:ev E y=some (.string (bs b))):I9 P X o E L Φ (.bool (decide (a=b))) :=
 .of_run fun ac w ha _=>by
  simp [execOp,ho,C0 ha hx,C0 ha hy,eqGuard,binOp,Op.stringOp,C5w]
theorem B2z {o:Oper} {T U:TypeId} {x y:Operand} {a b:List UInt8} (ho:o.op=.binOp .neq T x y U) (hx:ev E x=some (.string (bs a))) (hy:ev E y=some (.string (bs b))):I9 P X o E L Φ (.bool (!decide (a=b))) :=
 .of_run fun ac w ha _=>by
  simp [execOp,ho,C0 ha hx,C0 ha hy,eqGuard,binOp,Op.stringOp,C5w]
theorem C6p (a b:List UInt8):bs a++bs b=bs (a++b):=by
 apply ByteArray.ext;simp [bs]
theorem C7g {o:Oper} {T U:TypeId} {x y:Operand} {a b:List UInt8} (ho:o.op=.binOp .add T x y U) (hx:ev E x=some (.string (bs a))) (hy:ev E y=some (.string (bs b))) (h:a.length+b.length≤9223372036854775807):I9 P X o E L Φ (.string (bs (a++b))) :=
 .of_run fun ac w ha _=>by
  have h':¬ ((((bs a).size+(bs b).size:Nat):Int) > IntKind.i64.max):=by
   rw [C5n,C5n];show ¬ ((_:Int) > 9223372036854775807);omega
  simp only [execOp,ho,C0 ha hx,C0 ha hy,eqGuard,binOp,Op.stringOp,if_neg h',C6p]
  rfl
theorem D4m (s:List UInt8) (k:Nat) (h:k<s.length):(bs s)[k]?=some (s.getD k 0):=by
 have:k<(bs s).size:=h
 rw [getElem?_pos (bs s) k this]
 simp only [bs,ByteArray.getElem_eq_getElem_data]
 simp [List.getD,h]
theorem C2q {o:Oper} {T:TypeId} {x y:Operand} {s:List UInt8} {m:Int} (hT:P.underlying T=some .string) (ho:o.op=.index T x y) (hx:ev E x=some (.string (bs s))) (hy:ev E y=some (.int .i64 m)) (k:Nat) (hk:m=k) (hl:k<s.length) :
  I9 P X o E L Φ (.int .u8 ((s.getD k 0).toNat:Int)):=.of_run fun ac w ha _=>by
 subst hk
 have h0:(0:Int)≤k:=by omega
 simp [execOp,ho,C0 ha hx,C0 ha hy,Instr.index,asIntOf,run_underlying hT,D4m s k hl]
theorem Q7 {α:Type} {rs:List Slc} {xss:List (List α)} (ok:C7 rs xss) {k:Nat} (h:k<rs.length) {d:Slc}:(Value.slice (rs.getD k d).q (rs.getD k d).n (rs.getD k d).k)=.slice (rs.getD k d).q (xss.getD k []).length (rs.getD k d).k:=by
 have h1:=gd d h
 have h2:xss[k]?=some (xss.getD k []):=gd [] (by have:=ok.1;omega)
 rw [(ok.2 k _ _ h1 h2).1]
theorem P8 {α:Type} {rs:List Slc} {xss:List (List α)} (ok:C7 rs xss) {k:Nat} (h:k<rs.length) {d:Slc}:(xss.getD k []).length≤(rs.getD k d).k∧(xss.getD k []).length≤9223372036854775807:=by
 have h1:=gd d h
 have h2:xss[k]?=some (xss.getD k []):=gd [] (by have:=ok.1;omega)
 have:=ok.2 k _ _ h1 h2
 omega
theorem P9 {α:Type} {c:α→List Value} {rs:List Slc} {xss:List (List α)} (ok:C7 rs xss) (j:Nat) (hj:Φ[j]?=some (G5 c rs xss)) {k:Nat} (h:k<rs.length) {d:Slc}:O7 Φ (sl c (rs.getD k d).q (xss.getD k [])) :=
 D0l j hj (gd d h) (gd [] (by have:=ok.1;omega))
theorem A7x {o:Oper} {T e sz len:Nat} {agg:Bool} {x y:Operand} {a:Addr} {m:Int} (hT:P.underlying T=some (.array len e)) (he:Ty P e sz agg) (ho:o.op=.indexAddr T x y)
  (hx:ev E x=some (.pointer (some a))) (hy:ev E y=some (.int .i64 m)) (k:Nat) (hk:m=k) (hl:k<len):I9 P X o E L Φ (.pointer (some (a.add (k * sz)))):=.of_run fun ac w ha _=>by
 subst hk
 have h1:(0:Int)≤k∧(k:Int)<len:=by omega
 simp [execOp,ho,C0 ha hx,C0 ha hy,Instr.indexAt,asIntOf,run_underlying hT,Instr.sureAddr,he.size,h1,Nat.not_le.2 hl]
def A6d (q:Option Addr) (l sz m:Nat):Option Addr:=if m=l then q else q.map (·.add (l * sz))
def SB (E:Env) (o:Option Operand) (d v:Nat):Prop:=match o with | none=>v=d | some x=>∃ m,ev E x=some (.int .i64 m)∧m=(v:Int)
theorem A0d {d:Nat}:SB E none d d:=rfl
theorem U6 {x:Operand} {m:Int} {d v:Nat} (h:ev E x=some (.int .i64 m)) (hm:m=v):SB E (some x) d v:=⟨m,h,hm⟩
theorem A1m {a:Act} (ha:Has a E) {x:Operand} {d v y:Nat} (h:SB E (some x) d v) (hy:v≤y) (code:BoundsCode) (w:World):(Instr.sliceBound (a.eval x) y code).run P w=.ok v w:=by
 obtain ⟨m,h1,h2⟩:=h
 subst h2
 have h1':(0:Int)≤v∧(v:Int)≤y:=by omega
 simp [Instr.sliceBound,C0 ha h1,asIntOf,h1']
theorem A6r {o:Oper} {T e sz:Nat} {x:Operand} {lo hi mx:Option Operand} {q:Option Addr} {len cap:Nat} (hT:SlTy P T e sz) (ho:o.op=.slice T x lo hi mx) (hx:ev E x=some (.slice q len cap)) (l h m:Nat) (hl:SB E lo 0 l) (hh:SB E hi len h) (hm:SB E mx cap m)
  (b1:l≤h) (b2:h≤m) (b3:m≤cap) {n':Nat} (hn:n'=h - l) (hmx:(mx.isSome&&!hi.isSome)=false):I9 P X o E L Φ (.slice (A6d q l sz m) n' (m - l)):=.of_run fun ac w ha _=>by
 subst hn
 have key:(Instr.sliceBounds true len cap (lo.map ac.eval) (hi.map ac.eval) (mx.map ac.eval)).run P w=.ok (l,h,m) w:=by
  unfold Instr.sliceBounds
  cases mx with
  | none =>
   have hm':m=cap:=hm
   subst hm'
   cases hi with
   | none =>
    have hh':h=len:=hh
    subst hh'
    cases lo with
    | none=>have hl':l=0:=hl;subst hl';simp
    | some z=>simp [A1m ha hl b1]
   | some y =>
    cases lo with
    | none=>have hl':l=0:=hl;subst hl';simp [A1m ha hh b2]
    | some z=>simp [A1m ha hl b1,A1m ha hh b2]
  | some z =>
   cases hi with
   | none=>simp at hmx
   | some y =>
    cases lo with
    | none=>have hl':l=0:=hl;subst hl';simp [A1m ha hh b2,A1m ha hm b3]
    | some z=>simp [A1m ha hl b1,A1m ha hh b2,A1m ha hm b3]
 simp only [execOp,ho,Sem.run_bind,C0 ha hx,Instr.sliceAt,Instr.slice,run_underlying hT.ty,Result.andThen_ok,key,hT.run,A6d]
 rfl
theorem D5j (q:Option Addr) (sz m:Nat):A6d q 0 sz m=q:=by
 unfold A6d;split
 ·rfl
 ·cases q<;>simp [Addr.add]
theorem A7j {o:Oper} {T e sz:Nat} {x:Operand} {hi mx:Option Operand} {q:Option Addr} {len cap:Nat} (hT:SlTy P T e sz) (ho:o.op=.slice T x none hi mx) (hx:ev E x=some (.slice q len cap)) (h m:Nat) (hh:SB E hi len h) (hm:SB E mx cap m)
  (b2:h≤m) (b3:m≤cap) {n':Nat} (hn:n'=h) (hmx:(mx.isSome&&!hi.isSome)=false):I9 P X o E L Φ (.slice q n' m):=by
 have:=A6r (L:=L) (Φ:=Φ) (X:=X) hT ho hx 0 h m A0d hh hm (Nat.zero_le _) b2 b3 (n':=n') (by omega) hmx
 rwa [D5j] at this
theorem C9a {α:Type} {c:α→List Value} {sz:Nat} {q:Option Addr} {xs:List α} (h:O7 Φ (sl c q xs)) (l k m:Nat) (hc:∀ x,(c x).length=sz) {ys:List α} (hy:ys=(xs.drop l).take (k - l)) (h1:l≤xs.length) (h2:k≤m):O7 Φ (sl c (A6d q l sz m) ys):=fun p hp=>by
 subst hy
 have:=h p hp
 unfold A6d
 split
 ·rename_i e
  subst e
  rw [show k - m=0 by omega,List.take_zero]
  cases q with
  | none=>rfl
  | some a=>exact .inl rfl
 ·cases q with
  | none=>have e:xs=[]:=this;subst e;simp [sl]
  | some a =>
   obtain ⟨b,of,sp⟩:=a
   obtain hn | ⟨h0,cc,T,fr,h3,h4⟩:=this
   ·exact .inl (List.flatMap_eq_nil_iff.2 fun x hx=>List.flatMap_eq_nil_iff.1 hn x (List.mem_of_mem_drop (List.mem_of_mem_take hx)))
   simp only at h0 h3 h4
   subst h0
   simp only [Option.map_some,U3]
   refine .inr ⟨rfl,cc,T,fr,h3,fun j v hj=>?_⟩
   have e:xs.flatMap c=(xs.take l).flatMap c++((((xs.drop l).take (k - l)).flatMap c)++((xs.drop l).drop (k - l)).flatMap c):=by
    rw [← List.flatMap_append,← List.flatMap_append,List.take_append_drop,List.take_append_drop]
   have hl:((xs.take l).flatMap c).length=l * sz:=by rw [E2 hc,List.length_take,Nat.min_eq_left h1]
   simp only
   rw [Nat.add_assoc]
   refine h4 _ _ ?_
   rw [e,List.getElem?_append_right (by omega),hl,Nat.add_sub_cancel_left,List.getElem?_append_left (List.getElem?_eq_some_iff.1 hj).1]
   exact hj
theorem B0h {o:Oper} {c:Call} {T e sz by':Nat} {x y:Operand} {α:Type} {f:α→List Value} {r:VR} {xs ys:List α} {a:Addr} {m cc:Nat} {pre post:Own} (hT:ApTy P T e sz by') (hf:∀ x,(f x).length=sz) (hf1:∀ x,(f x).all (·.oneCell')=true)
  (ho:o.op=.call c) (hc:c.callee=.builtin .append) (hca:c.args=#[x,y]) (hct:c.argTypes=#[T,T]) (hx:ev E x=some (vv r xs.length)) (hy:ev E y=some (.slice (some a) m cc)) (_h:True=True) (hm:m=ys.length) (hL:L=pre++(vo f e r xs++post))
  (hq:O7 Φ (sl f (some a) ys)) (hok:VOk sz xs.length r) (hb:(xs.length+ys.length) * by'≤140737488355328) (h63:xs.length+ys.length≤9223372036854775807) :
  Tri P n X o E L Φ {r':VR // VOk sz (xs++ys).length r'} (fun r'=>vv r'.1 (xs++ys).length) (fun r'=>pre++(vo f e r'.1 (xs++ys)++post)) (fun _=>Φ):=by
 rw [List.length_append]
 exact C5b hT hf hf1 ho hc hca hct hx hy hm hL hq hok hb h63
theorem C2b {w:World} {base:Nat} {T ty e:TypeId} {i:TypeInfo} {size:Nat} (ht:P.underlying T=some (.slice e)) (hi:P.info? e=some i)
  {v:Value} {n:Nat} {xs:List Value} (hown:w.ownsRow base e size v n xs) (c:Nat):(Builtin.append_ #[T,T] ty #[v,.slice none 0 c]).run P w=.ok v w:=by
 rcases hown.2 with ⟨rfl,rfl⟩ | ⟨g,cap,cur,rfl,_,_,hnc,_⟩
 ·simp [Builtin.append_,run_underlying ht,sizeOf,typeInfo,hi,Builtin.lenOf,Builtin.firstCells]
 ·simp [Builtin.append_,run_underlying ht,sizeOf,typeInfo,hi,Builtin.lenOf,Builtin.firstCells,hnc,storeCells]
theorem D1o {T e sz by':Nat} (_hT:ApTy P T e sz by') {α:Type} {f:α→List Value} (hf:∀ x,(f x).length=sz) {r:VR} {xs:List α} {pre post:Own} {w:World} (hw:StW X (pre++(vo f e r xs++post)) Φ w) (hok:VOk sz xs.length r) :
  w.ownsRow 0 e sz (vv r xs.length) xs.length (xs.flatMap f):=by
 obtain ⟨p,hp⟩:=hw
 refine ⟨E2 hf xs,?_⟩
 unfold VOk at hok
 split at hok
 ·rename_i hq0
  refine .inl ⟨?_,hok.1⟩
  unfold vv va
  rw [hq0,hok.1,hok.2]
 ·rename_i b hq0
  refine .inr ⟨b,r.k,(xs.flatMap f++r.j).toArray,?_,Nat.zero_le _,?_,hok.2.1,hok.2.2,?_,?_⟩
  ·unfold vv va;rw [hq0]
  ·have:=hp.own.1 (bx b (xs.flatMap f++r.j) e) (List.mem_append_right _ (List.mem_append_left _ (by unfold vo;rw [hq0];simp)))
   exact this.1
  ·simp only [List.size_toArray,List.length_append,E2 hf];exact hok.1
  ·rw [← E2 hf xs];simp
theorem A4o {o:Oper} {c:Call} {T e sz by':Nat} {x y:Operand} {α:Type} {f:α→List Value} {r:VR} {xs ys:List α} {q:Option Addr} {m cc:Nat} {pre post:Own} (hT:ApTy P T e sz by') (hf:∀ x,(f x).length=sz) (hf1:∀ x,(f x).all (·.oneCell')=true)
  (ho:o.op=.call c) (hc:c.callee=.builtin .append) (hca:c.args=#[x,y]) (hct:c.argTypes=#[T,T]) (hx:ev E x=some (vv r xs.length)) (hy:ev E y=some (.slice q m cc)) (hm:m=ys.length) (hL:L=pre++(vo f e r xs++post))
  (hq:O7 Φ (sl f q ys)) (hok:VOk sz xs.length r) (hb:(xs.length+ys.length) * by'≤140737488355328) (h63:xs.length+ys.length≤9223372036854775807) :
  Tri P n X o E L Φ {r':VR // VOk sz (xs++ys).length r'} (fun r'=>vv r'.1 (xs++ys).length) (fun r'=>pre++(vo f e r'.1 (xs++ys)++post)) (fun _=>Φ):=by
 cases q with
 | some a=>exact B0h hT hf hf1 ho hc hca hct hx hy rfl hm hL hq hok hb h63
 | none =>
  intro ac w K Q hs hk
  obtain ⟨p,hp⟩:=hs.world
  have hys:ys=[]:=hq p hp.facts
  subst hys
  simp only [List.length_nil] at hm
  subst hm
  have hw:=hs.world
  rw [hL] at hw
  obtain ⟨i,hi,_⟩:=Option.map_eq_some_iff.1 hT.info
  refine A3b (by rw [ho];rfl) ?_
  unfold Oper.wp
  rw [show (execOp ac.eval o).run P w=.ok (.value (vv r xs.length)) w by
   simp [execOp,ho,resolve,hc,hca,hct,C0 hs.has hx,C0 hs.has hy,invoke,builtin,C2b (P:=P) (ty:=o.type) hT.ty hi (D1o hT hf hw hok) cc]]
  have:=hk ⟨r,by simpa using hok⟩ w (by simpa using hw)
  exact (by simpa using this:K (ac.put o.dst (vv r xs.length)) w)
theorem VOk.cap {sz n:Nat} {r:VR} (h:VOk sz n r):n≤r.k:=by
 unfold VOk at h
 split at h
 ·omega
 ·exact h.2.1
theorem VOk.le {sz n:Nat} {r:VR} (h:VOk sz n r):n≤9223372036854775807:=by
 unfold VOk at h
 split at h
 ·omega
 ·exact Nat.le_trans h.2.1 h.2.2
theorem I5 {o:Oper} {c:Call} {fv:Operand} {k:FuncId} {first cap:Array Value} {vs args:List Value} {L0 L2:Own} {Φ0:List Pers} {α:Type} {val:α→Value} {L1:α→Own} {Φ1:α→List Pers}
  (hcon:Con P k args L0 Φ0 α val L1 Φ1) (ho:o.op=.call c) (hc:c.callee=.value fv) (hf:ev E fv=some (.func (.func k) first cap)) (hargs:c.args.toList.mapM (ev E)=some vs) (ha:(first++vs.toArray++cap).toList=args)
  (hΦ:A2 Φ Φ0) (hL:L.Perm (L0++L2)) (L':α→Own) (hL':∀ x,(L1 x++L2).Perm (L' x)):Tri P n X o E L Φ α val L' (fun x=>Φ1 x++Φ):=by
 intro a w K Q hs hk
 exact C3b hcon ho hc hf hargs ha hΦ hL a w K Q hs fun x w' hw=>hk x w' (hw.perm (hL' x))
theorem B9v (s:List UInt8) (j:Nat) (hj:j<s.length):(s.flatMap cU8)[j]?=some (.int .u8 (s[j].toNat:Int)):=by
 have:=A6u (c:=cU8) (sz:=1) (fun _=>rfl) (xs:=s) (k:=j) (v:=s[j]) (by simp [hj]) 0 _ rfl
 simpa using this
theorem B3m {o:Oper} {S T e:TypeId} {x:Operand} {q:Option Addr} {n' k:Nat} {s:List UInt8} (hT:P.underlying T=some .string) (hS:P.underlying S=some (.slice e)) (ho:o.op=.convert S T x) (hx:ev E x=some (.slice q n' k)) (hq:O7 Φ (sl cU8 q s)) (hn:n'=s.length) (hu:(P.underlying e)=some (.int .u8)):I9 P X o E L Φ (.string (bs s)) :=
 .of_run fun ac w ha ⟨p,hp⟩=>by
  subst hn
  have h0:=hq p hp.facts
  cases q with
  | none =>
   have h0:s=[]:=h0
   subst h0
   simp [execOp,ho,C0 ha hx,convert,run_underlying hT,run_underlying hS,run_underlying hu,Conv.bytesToString]
   rfl
  | some a =>
   have h0:A2v p a (s.flatMap cU8):=h0
   have:=run_convert_bytes_back (P:=P) w S T e a k s hS hu hT fun j hj=>h0.cell hp.sub (B9v s j hj)
   simp [execOp,ho,C0 ha hx,this]
theorem C2t {o:Oper} {S T e TT:Nat} {x:Operand} {r:VR} {s:List UInt8} (hT:P.underlying T=some .string) (hS:P.underlying S=some (.slice e)) (ho:o.op=.convert S T x) (hx:ev E x=some (vv r s.length)) {pre post:Own} (hL:L=pre++(vo cU8 TT r s++post)) (hok:VOk 1 s.length r) (hu:(P.underlying e)=some (.int .u8)):I9 P X o E L Φ (.string (bs s)) :=
 .of_run fun ac w ha ⟨p,hp⟩=>by
  obtain ⟨q,k,j⟩:=r
  cases q with
  | none =>
   have h0:s.length=0:=hok.1
   have h0:s=[]:=List.eq_nil_of_length_eq_zero h0
   subst h0
   simp [execOp,ho,C0 ha hx,convert,run_underlying hT,run_underlying hS,run_underlying hu,Conv.bytesToString,va]
   rfl
  | some b =>
   have hb:=hp.own.1 (bx b (s.flatMap cU8++j) TT) (by rw [hL];exact List.mem_append_right _ (List.mem_append_left _ (by simp [vo])))
   have:=run_convert_bytes_back (P:=P) w S T e ⟨b,0,none⟩ k s hS hu hT fun i hi=>by
    rw [U3]
    simp only [World.cell?,hb.1,Nat.zero_add]
    rw [List.getElem?_toArray,List.getElem?_append_left (by rw [E2 (sz:=1) (fun _=>rfl)];omega)]
    exact B9v s i hi
   simp only [execOp,ho,Sem.run_bind,C0 ha hx]
   rw [show vv ⟨some b,k,j⟩ s.length=.slice (some ⟨b,0,none⟩) s.length k from rfl,this]
   rfl
theorem C9o {o:Oper} {T U:TypeId} {x y:Operand} {k:IntKind} {a b:Int} (ho:o.op=.binOp .quo T x y U) (hx:ev E x=some (.int k a)) (hy:ev E y=some (.int k b)) (hb:b≠0):I9 P X o E L Φ (.int k (k.wrap (a.tdiv b))):=.of_run fun ac w ha _=>by
 simp [execOp,ho,C0 ha hx,C0 ha hy,eqGuard,binOp,Op.intDiv,hb]
theorem P0 {α:Type} {c:α→List Value}:O7 Φ (G5 c [] []):=fun p _ i r xs h=>by simp at h
theorem A2j {α:Type} {c:α→List Value} {r:Slc} {xs:List α} {rs:List Slc} {xss:List (List α)} (h1:O7 Φ (sl c r.q xs)) (h2:O7 Φ (G5 c rs xss)):O7 Φ (G5 c (r::rs) (xs::xss)):=fun p hp i r' xs' hr hx=>by
 cases i with
 | zero=>simp only [List.getElem?_cons_zero,Option.some.injEq] at hr hx;subst hr hx;exact h1 p hp
 | succ i=>simp only [List.getElem?_cons_succ] at hr hx;exact h2 p hp i r' xs' hr hx
theorem C7.none {α:Type}:C7 [] ([]:List (List α)):=⟨rfl,fun i r xs h=>by simp at h⟩
theorem C7.cons {α:Type} {r:Slc} {xs:List α} {rs:List Slc} {xss:List (List α)} (h1:r.n=xs.length∧r.n≤r.k∧xs.length≤9223372036854775807) (h2:C7 rs xss):C7 (r::rs) (xs::xss):=⟨by simp [h2.1],fun i r' xs' hr hx=>by
 cases i with
 | zero=>simp only [List.getElem?_cons_zero,Option.some.injEq] at hr hx;subst hr hx;exact h1
 | succ i=>simp only [List.getElem?_cons_succ] at hr hx;exact h2.2 i r' xs' hr hx⟩
end
end Go.Fen
set_option linter.unusedVariables false
set_option linter.unusedSimpArgs false
namespace Go.Fen
open Go Go.RowKit
section
variable {P:Program} {n:Nat} {X:Cx} {K:Act→World→Prop} {Q:Exit→Act→World→Prop} {E E':Env} {L L':Own} {Φ Φ':List Pers}
theorem A9v {o:Oper} {T:TypeId} (ho:o.op=.makeMap T none):Tri P n X o E L Φ Nat (fun b=>.map (some b)) (fun b=>(b,.map #[] 0)::L) (fun _=>Φ):=by
 intro a w K Q hs hk
 refine A3b (by rw [ho];rfl) ?_
 unfold Oper.wp
 rw [show (execOp a.eval o).run P w=.ok (.value (.map (some w.heap.size))) (w.alloc (.map #[] 0)) by
  simp only [execOp,ho,Sem.run_bind,Option.map_none,run_makeMap];rfl]
 exact hk w.heap.size _ (hs.world.alloc _)
structure MapTy (P:Program) (T k e:Nat) (kd:TypeDesc):Prop where
 ty:P.underlying T=some (.map k e)
 key:P.underlying k=some kd
 plain:(match kd with | .int _ | .string | .bool=>true | _=>false)=true
theorem B2n {T k e:Nat} {kd:TypeDesc} (hT:MapTy P T k e kd) (em:Bool) (v:Value) (w:World):(Instr.checkKey em 10000 k v).run P w=.ok () w:=by
 have hp:=hT.plain
 unfold Instr.checkKey
 rw [Sem.run_bind,run_underlying hT.key]
 cases kd<;>simp_all
theorem B4r {T k e:Nat} {kd:TypeDesc} (hT:MapTy P T k e kd) {v:Value} {es:List MapEntry} {r:Option (Nat×Value)} (h:Instr.findNow kd v es 0=some r) (w:World):(Instr.findKey k v es).run P w=.ok r w:=by
 unfold Instr.findKey
 rw [Sem.run_bind,run_underlying hT.key]
 simp [h]
theorem D4y {w:World} {r:Nat} {es:Array MapEntry} {clk:Nat} (h:w.heap[r]?=some (.map es clk)):(getObj r).run P w=.ok (.map es clk) w:=by simp [getObj,Sem.run,h]
theorem D6q {w:World} {r:Nat} {es:Array MapEntry} {clk:Nat} (o:Obj) (h:w.heap[r]?=some (.map es clk)):(setObj r o).run P w=.ok () {w with heap:=w.heap.setIfInBounds r o}:=by simp [setObj,Sem.run,h]
theorem C5m {w:World} (hs:StW X L Φ w) {i b:Nat} {o:Obj} (hi:L[i]?=some (b,o)):w.heap[b]?=some o:=by
 obtain ⟨p,hp⟩:=hs
 exact B6g hp hi
theorem E5 {o:Oper} {T k e:Nat} {kd:TypeDesc} {m kk vv':Operand} {b:Nat} {kv v:Value} {es es':Array MapEntry} {clk:Nat} (hT:MapTy P T k e kd) (ho:o.op=.insert T m kk vv'∨o.op=.mapUpdate T m kk vv') (hm:ev E m=some (.map (some b))) (hk:ev E kk=some kv) (hv:ev E vv'=some v)
  (i:Nat) (hi:L[i]?=some (b,.map es clk)) (hf:Instr.findNow kd kv es.toList 0=some none) (he:es.push ⟨kv,v,clk⟩=es') :
  Tri P n X o E L Φ Unit (fun _=>undef) (fun _=>L.set i (b,.map es' (clk+1))) (fun _=>Φ):=by
 intro a w K Q hs hk'
 have hb:=C5m hs.world hi
 subst he
 have hr:(execOp a.eval o).run P w=.ok .skip {w with heap:=w.heap.setIfInBounds b (.map (es.push ⟨kv,v,clk⟩) (clk+1))}:=by
  rcases ho with ho | ho <;>
  simp [execOp,ho,C0 hs.has hm,C0 hs.has hk,C0 hs.has hv,Instr.mapUpdate,run_underlying hT.ty,D4y hb,D6q _ hb,B2n hT,B4r hT hf]
 have hlt:b<w.heap.size:=(Array.getElem?_eq_some_iff.1 hb).1
 refine A3b (by rcases ho with ho | ho<;>rw [ho]<;>rfl) ?_
 unfold Oper.wp
 rw [hr]
 refine hk' () _ (hs.world.set hi ?_ (fun j hj=>?_) rfl rfl rfl (by simp))
 ·simp [hlt]
 ·simp [Array.getElem?_setIfInBounds,Ne.symm hj]
theorem A5r {o:Oper} {T k e:Nat} {kd:TypeDesc} {m kk:Operand} {b j:Nat} {kv v:Value} {es:Array MapEntry} {clk:Nat} (hT:MapTy P T k e kd) (ho:o.op=.lookup T m kk true) (hm:ev E m=some (.map (some b))) (hk:ev E kk=some kv)
  (i:Nat) (hi:L[i]?=some (b,.map es clk)) (hf:Instr.findNow kd kv es.toList 0=some (some (j,v))):I9 P X o E L Φ (.tuple #[v,.bool true]):=.of_run fun ac w ha hw=>by
 have hb:=C5m hw hi
 simp [execOp,ho,C0 ha hm,C0 ha hk,Instr.lookup,run_underlying hT.ty,D4y hb,B2n hT,B4r hT hf]
theorem C7k {o:Oper} {T:TypeId} {d:TypeDesc} {x:Operand} {v:Value} (hT:P.underlying T=some d) (hd:(match d with | .interface _=>false | _=>true)=true) (ho:o.op=.makeInterface T x) (hx:ev E x=some v):I9 P X o E L Φ (.iface T v):=.of_run fun ac w ha _=>by
 cases d<;>simp_all [execOp,Instr.makeInterface,C0 ha hx,run_underlying hT]
def D4b {ρ:Type} (pv:Value) (val:ρ→Value):Option ρ→Ending
 | some r=>.returned (val r)
 | none=>.panicked [{v:=pv,recovered:=false}]
def B7u (P:Program) (f:FuncId) (args:List Value) (L0:Own) (Φ0:List Pers) {ρ:Type} (pv:Value) (R:Option ρ) (val:ρ→Value):Prop :=
 HasBody P f∧∀ (w:World) (h:Hp),(∀ q ∈ Φ0,q.p h)→h.sub w→A0i L0 h w →
  Calls P f args.toArray w fun e w'=>StW (cx w h (L0.map Prod.fst)) [] [] w'∧e=D4b pv val R
def C5q (P:Program) (X:Cx) (fn:Func) {ρ:Type} (pv:Value) (R:Option ρ) (val:ρ→Value):Exit→Act→World→Prop :=
 bodyPostM (FW none) 0 P fn fun e w'=>StW X [] [] w'∧e=D4b pv val R
theorem A7h {f:FuncId} {fn:Func} {c:Code} {args:List Value} {L0:Own} {Φ0:List Pers} {ρ:Type} {pv:Value} {R:Option ρ} {val:ρ→Value}
  (hf : P.funcs[f]? = some fn) (hb : fn.body = some c) (hnm : (fn.name == "runtime.NumGoroutine") = false) (hn : fn.ntmps = n) (hle : Nat.ble args.length n = true) (E0 : Env) (hE : J0 ((List.range args.length).zip args) E0)
  (h:∀ X:Cx,X.M=L0.map Prod.fst→X.rho=none→X.D=[]→J P n X c (C5q P X fn pv R val) E0 L0 Φ0):B7u P f args L0 Φ0 pv R val:=by
 refine ⟨⟨by simp [hf,hb,hnm]⟩,fun w p hp hs ho=>?_⟩
 have hle':args.length≤n:=Nat.le_of_ble_eq_true hle
 refine (callsIn_wide (n:=0)).1 (callsIn_of_wp_marks (F:=Fence.wide) hf hb trivial (h (cx w p (L0.map Prod.fst)) rfl rfl rfl _ w ⟨?_,rfl,?_,p,⟨hp,hs,Hp.le_refl p,fun b hb=>.inl hb,ho,fun e he=>.inl (List.mem_map_of_mem he),KeptBut.refl _ w,fun d hd=>by cases hd⟩⟩))
 ·simp [hn];omega
 ·rw [hn];exact B4c hle hE
theorem B9k {X':Cx} {a:Act} {w:World} {fn:Func} {ρ:Type} {pv:Value} {R:Option ρ} {val:ρ→Value} {v:Value} {r:ρ} (hX:X'=X.wd X'.D) (hX0:X=X.wd []) (hrho:X.rho=none) (hnd:(X'.D.map Prod.fst).Nodup∧∀ d ∈ X'.D,d.2=.deferred (some [])) (hr:Res P n X fn E L Φ v) (hR:R=some r) (hv:val r=v)
  (hs:St n X' E L Φ a w):LeavesInM (FW none) 0 P fn a.tmps (fun e w'=>StW X [] [] w'∧e=D4b pv val R) a.defers .returning w:=by
 have hm:X'.marks=X'.D.map (B5q ·.1):=by rw [hX];unfold Cx.marks Cx.wd;simp only [hrho]
 rw [hs.defers,hm]
 refine A5k (X:=X) (L:=L) (Φ:=Φ) X'.D hnd.1 hnd.2 w (hX▸hs.world) fun w' hw'=>⟨v,?_,?_,by rw [hR,← hv];rfl⟩
 ·rw [hX0] at hr
  exact hr {a with defers:=[]} w' ⟨hs.size,by unfold Cx.marks Cx.wd;simp only [hrho];rfl,hs.has,hw'⟩
 ·rw [hX0];exact (hw'.sub (List.nil_sublist _)).foll A2.nil
theorem B9i {X':Cx} {fn:Func} {ρ:Type} {pv:Value} {R:Option ρ} {val:ρ→Value} {v:Value} {r:ρ} (hX:X'=X.wd X'.D) (hX0:X.rho=none∧X.D=[]) (hnd:(X'.D.map Prod.fst).Nodup∧∀ d ∈ X'.D,d.2=.deferred (some [])) (hr:Res P n X fn E L Φ v) (hR:R=some r) (hv:val r=v) :
  JQ n X' (C5q P X fn pv R val .ret) E L Φ:=fun a w hs=>B9k hX (by obtain ⟨w0,h0,M,r,D⟩:=X;obtain ⟨h1,h2⟩:=hX0;simp only at h1 h2;subst h1 h2;rfl) hX0.1 hnd hr hR hv hs
theorem A8m {X':Cx} {fn:Func} {ρ:Type} {pv:Value} {R:Option ρ} {val:ρ→Value} {v:Value} {r:ρ} (hX:X'=X.wd X'.D) (hX0:X.rho=none∧X.D=[]) (hnd:(X'.D.map Prod.fst).Nodup∧∀ d ∈ X'.D,d.2=.deferred (some [])) (hr:Res P n X fn E L Φ v) (hR:R=some r) (hv:val r=v) :
  JQ n X' (C5q P X fn pv R val .normal) E L Φ:=fun a w hs=>B9k hX (by obtain ⟨w0,h0,M,r,D⟩:=X;obtain ⟨h1,h2⟩:=hX0;simp only at h1 h2;subst h1 h2;rfl) hX0.1 hnd hr hR hv hs
theorem Z7 {fn:Func} {ρ:Type} {pv:Value} {R:Option ρ} {val:ρ→Value} (hX0:X.rho=none∧X.D=[]) (hR:R=none) :
  JQ n X (C5q P X fn pv R val (.panic [{v:=pv,recovered:=false}])) E L Φ:=fun a w hs=>by
 have hd:a.defers=[]:=by rw [hs.defers];unfold Cx.marks;rw [hX0.1,hX0.2];rfl
 show LeavesInM (FW none) 0 P fn a.tmps _ a.defers _ w
 rw [hd,hR]
 exact ⟨(hs.world.sub (List.nil_sublist _)).foll A2.nil,rfl⟩
theorem C8p {ops:Array Oper} {i m:Nat} {o:Oper} {x:Operand} {T:TypeId} {v:Value} (ho:B4j n ops i E=some o) (hp:o.op=.panic x) (hx:ev E x=some (.iface T v)) (h:JQ n X (Q (.panic [{v:=.iface T v,recovered:=false}])) E L Φ) :
  JI P n X ops i (m+1) K Q E L Φ:=by
 intro a w hs
 obtain ⟨h1,h2,_⟩:=O6 ho
 rw [A5o h1,List.take_succ_cons]
 refine wpListIn_step fun K' hK=>?_
 rw [if_pos (X7 hs.has h2)]
 refine ⟨fun _ _=>trivial,?_⟩
 rw [Oper.semAt_eq _ _ _ (fun c hc=>by rw [hp] at hc;cases hc)]
 rw [show (execOp a.eval o).run P w=.halt (.panic (.iface T v)) w by simp [execOp,hp,C0 hs.has hx,Instr.panic,goPanic]]
 exact h a w hs
theorem A5v {ops:Array Oper} {i m:Nat} {o:Oper} {c:Call} {fv:Operand} {k:FuncId} {first cap:Array Value} {vs args:List Value} {L0 L2:Own} {Φ0:List Pers} {ρ:Type} {pv:Value} {R:Option ρ} {val:ρ→Value}
  (hcon:B7u P k args L0 Φ0 pv R val) (hat:B4j n ops i E=some o) (ho:o.op=.call c) (hc:c.callee=.value fv) (hf:ev E fv=some (.func (.func k) first cap)) (hargs:c.args.toList.mapM (ev E)=some vs) (ha:(first++vs.toArray++cap).toList=args)
  (hΦ:A2 Φ Φ0) (hL:L.Perm (L0++L2)) (h1:∀ r,R=some r→JI P n X ops (i+1) m K Q (Env.put E o.dst (val r)) L2 Φ) (h2:R=none→JQ n X (Q (.panic [{v:=pv,recovered:=false}])) E L2 Φ):JI P n X ops i (m+1) K Q E L Φ:=by
 intro a w hs
 obtain ⟨e1,e2,e3⟩:=O6 hat
 rw [A5o e1,List.take_succ_cons]
 refine wpListIn_step fun K' hK=>?_
 rw [if_pos (X7 hs.has e2)]
 obtain ⟨p,hp⟩:=hs.world
 have hr:=B6y hs.has ho hc hf hargs hcon.1 w
 have hown:A0i (L0++L2) p w:=⟨fun e he=>hp.own.1 e (hL.symm.subset he),(hL.map Prod.fst).nodup_iff.1 hp.own.2⟩
 have:=hcon.2 w p (hΦ p hp.facts) hp.sub (hown.sub (List.sublist_append_left _ _))
 rw [← ha,Array.toArray_toList] at this
 refine ⟨fun _ _=>trivial,?_⟩
 rw [Oper.semAt_eq _ _ _ (fun c hc'=>by rw [ho] at hc';cases hc'),hr]
 refine ⟨A6b,(A9w this).mono fun e w' ⟨hw,he⟩=>?_⟩
 have hw2:StW X L2 Φ w':=by
  have:=StW.call hp hL hw
  simpa using this
 cases hR:R with
 | some r =>
  rw [hR] at he
  subst he
  exact hK _ _ (h1 r hR _ _ (hs.put e3 (val r) hw2))
 | none =>
  rw [hR] at he
  subst he
  exact h2 hR a w' ⟨hs.size,hs.defers,hs.has,hw2⟩
theorem B6h {ρ σ:Type} {o:Option ρ} {k:ρ→Option σ} {R:Option σ} {r:ρ} (h:Option.bind o k=R) (hr:o=some r):k r=R:=by subst hr;exact h
theorem B6m {ρ σ:Type} {o:Option ρ} {k:ρ→Option σ} {R:Option σ} (h:Option.bind o k=R) (hr:o=none):none=R:=by subst hr;exact h
theorem A2a {o:Oper} {T e sz len b:Nat} {agg:Bool} {x y:Operand} {m:Int} (hT:P.underlying T=some (.array len e)) (he:Ty P e sz agg) (ho:o.op=.indexAddr T x y)
  (hx:ev E x=some (.pointer (some ⟨b,0,none⟩))) (hy:ev E y=some (.int .i64 m)) (k:Nat) (hk:m=k) (hl:k<len):I9 P X o E L Φ (.pointer (some ⟨b,k * sz,none⟩)):=by
 have:=A7x (L:=L) (Φ:=Φ) (X:=X) hT he ho hx hy k hk hl
 rwa [U3,Nat.zero_add] at this
abbrev A1k:Value:=.iface 247 (.agg #[])
theorem C1i {α:Type} {c:α→List Value} {sz:Nat} {q:Option Addr} {xs:List α} (h:O7 Φ (sl c q xs)) (l m:Nat) (hc:∀ x,(c x).length=sz) (h1:l≤xs.length) (h2:xs.length≤m):O7 Φ (sl c (A6d q l sz m) (xs.drop l)) :=
 C9a h l xs.length m hc (by rw [List.take_of_length_le (by simp)]) h1 h2
theorem C8g {o:Oper} {c:Call} {T e sz by':Nat} {x y:Operand} {α:Type} {f:α→List Value} {xs ys:List α} {qx qy:Option Addr} {n1 k1 m cc:Nat} (hT:ApTy P T e sz by') (hf:∀ x,(f x).length=sz) (hf1:∀ x,(f x).all (·.oneCell')=true)
  (ho:o.op=.call c) (hc:c.callee=.builtin .append) (hca:c.args=#[x,y]) (hct:c.argTypes=#[T,T]) (hx:ev E x=some (.slice qx n1 k1)) (hy:ev E y=some (.slice qy m cc)) (hn1:n1=xs.length) (hk1:k1=xs.length) (hm:m=ys.length)
  (hqx:O7 Φ (sl f qx xs)) (hqy:O7 Φ (sl f qy ys)) (hys:0<ys.length) (hb:(xs.length+ys.length) * by'≤140737488355328) (h63:xs.length+ys.length≤9223372036854775807) :
  Tri P n X o E L Φ {r':VR // VOk sz (xs++ys).length r'} (fun r'=>vv r'.1 (xs++ys).length) (fun r'=>L++(vo f e r'.1 (xs++ys)++[])) (fun _=>Φ):=by
 subst hn1 hk1 hm
 cases qx with
 | none =>
  intro ac w K Q hs hk
  obtain ⟨p,hp⟩:=hs.world
  have h0:xs=[]:=hqx p hp.facts
  subst h0
  exact A4o (r:=VR.nil) (xs:=[]) (pre:=L) (post:=[]) hT hf hf1 ho hc hca hct hx hy rfl (by simp [vo,VR.nil]) hqy VOk.nil hb h63 ac w K Q hs hk
 | some a =>
  intro ac w K Q hs hk
  obtain ⟨p,hp⟩:=hs.world
  cases qy with
  | none=>have h0:ys=[]:=hqy p hp.facts;subst h0;simp at hys
  | some a' =>
   have c1:A2v p a (xs.flatMap f):=hqx p hp.facts
   have c2:A2v p a' (ys.flatMap f):=hqy p hp.facts
   obtain ⟨i,hi,hinf⟩:=Option.map_eq_some_iff.1 hT.info
   simp only [Prod.mk.injEq] at hinf
   obtain ⟨h4,h5,h6⟩:=hinf
   obtain ⟨z,hz,h6⟩:=Option.map_eq_some_iff.1 h6
   have hpos:0<sz:=by simpa [Nat.blt_eq] using hT.pos
   obtain ⟨v',w',hrun,⟨hlen,hor⟩,hg⟩:=run_append_arg_grows (P:=P) w T o.type e i z sz by' hT.ty hi hz h4 h5 h6 hpos a xs.length xs.length (xs.flatMap f) (E2 hf xs) (fun j u hj=>c1.cell hp.sub hj)
    a' ys.length cc (ys.flatMap f) (E2 hf ys) (fun j u hj=>c2.cell hp.sub hj) (by omega) h63 hb
   have hkp:KeptBut (([]:Own).map Prod.fst) w w':=⟨hg.os,hg.tape,hg.output,hg.size,fun k hk _=>hg.block k hk (by simp)⟩
   refine A3b (by rw [ho];rfl) ?_
   unfold Oper.wp
   rw [show (execOp ac.eval o).run P w=.ok (.value v') w' by
    simp [execOp,ho,resolve,hc,hca,hct,C0 hs.has hx,C0 hs.has hy,invoke,builtin,hrun]]
   rcases hor with ⟨rfl,hn0⟩ | ⟨g,cap,cur,rfl,hge,hheap,hle,hmax,hsz,htake⟩
   ·omega
   ·have hw2:StW X (L++([bx g ((xs++ys).flatMap f++cur.toList.drop ((xs.length+ys.length) * sz)) e]++[])) Φ w':=by
     refine StW.turn (L0:=[]) (show StW X (L++([]++[])) Φ w by simpa using hs.world) hkp ?_ (by simp)
     intro e' he
     obtain rfl:e'=_:=by simpa using he
     refine ⟨?_,.inr hge⟩
     simp only
     rw [hheap,← List.append_assoc,← htake,List.take_append_drop]
    have:=hk ⟨⟨some g,cap,cur.toList.drop ((xs.length+ys.length) * sz)⟩,?_⟩ w' (by simpa [vo] using hw2)
    ·simp only [vv,va,List.length_append] at this
     exact this
    ·have h9:(xs.length+ys.length) * sz≤cap * sz:=Nat.mul_le_mul_right _ hle
     refine ⟨?_,by simpa using hle,hmax⟩
     simp only [List.length_drop,Array.length_toList,hsz,List.length_append]
     omega
theorem C1z (s:List UInt8):byteCells (bs s)=s.flatMap cU8:=by
 simp only [byteCells,bs,cU8]
 induction s with
 | nil=>rfl
 | cons x s ih =>
  simp only [List.flatMap_cons]
  rw [← ih]
  rfl
theorem B6e {w:World} {T ty e:TypeId} {i:TypeInfo} (ht:P.underlying T=some (.slice e)) (hi:P.info? e=some i) (q q':Option Addr) (m k:Nat) (hm:m≤k) (c:Nat):(Builtin.append_ #[T,T] ty #[.slice q m k,.slice q' 0 c]).run P w=.ok (.slice q m k) w:=by
 cases q<;>cases q'<;>simp [Builtin.append_,run_underlying ht,sizeOf,typeInfo,hi,Builtin.lenOf,Builtin.firstCells,hm,storeCells,loadCells,loadCellsFrom]
theorem B6q {o:Oper} {c:Call} {T e sz by':Nat} {x y:Operand} {α:Type} {f:α→List Value} {xs ys:List α} {qx qy:Option Addr} {n1 k1 m cc:Nat} (hT:ApTy P T e sz by') (hf:∀ x,(f x).length=sz) (hf1:∀ x,(f x).all (·.oneCell')=true)
  (ho:o.op=.call c) (hc:c.callee=.builtin .append) (hca:c.args=#[x,y]) (hct:c.argTypes=#[T,T]) (hx:ev E x=some (.slice qx n1 k1)) (hy:ev E y=some (.slice qy m cc)) (hn1:n1=xs.length) (hk1:k1=xs.length) (hm:m=ys.length)
  (hqx:O7 Φ (sl f qx xs)) (hqy:O7 Φ (sl f qy ys)) (hb:(xs.length+ys.length) * by'≤140737488355328) (h63:xs.length+ys.length≤9223372036854775807) :
  Tri P n X o E L Φ {t:Option Addr×Nat // (xs++ys).length≤t.2} (fun t=>.slice t.1.1 (xs++ys).length t.1.2) (fun _=>L) (fun t=>sl f t.1.1 (xs++ys)::Φ):=by
 by_cases hys:0<ys.length
 ·intro ac w K Q hs hk
  refine C8g hT hf hf1 ho hc hca hct hx hy hn1 hk1 hm hqx hqy hys hb h63 ac w K Q hs fun r w' hw=>?_
  have:=hk ⟨(va r.1.q,r.1.k),r.2.cap⟩ w' (by have:=hw.sealed (pre:=L) (post:=[]) r.2;simpa using this)
  exact this
 ·have h0:ys=[]:=by cases ys with | nil=>rfl | cons a l=>simp at hys
  subst h0
  subst hn1 hk1 hm
  intro ac w K Q hs hk
  obtain ⟨i,hi,_⟩:=Option.map_eq_some_iff.1 hT.info
  refine A3b (by rw [ho];rfl) ?_
  unfold Oper.wp
  rw [show (execOp ac.eval o).run P w=.ok (.value (.slice qx xs.length xs.length)) w by
   simp [execOp,ho,resolve,hc,hca,hct,C0 hs.has hx,C0 hs.has hy,invoke,builtin,B6e (P:=P) (ty:=o.type) hT.ty hi qx qy xs.length xs.length (Nat.le_refl _) cc]]
  have:=hk ⟨(qx,xs.length),by simp⟩ w (by
   obtain ⟨p,hp⟩:=hs.world
   simp only [List.append_nil]
   exact ⟨p,{hp with facts:=fun q hq=>by rcases List.mem_cons.1 hq with rfl | hq;exact hqx p hp.facts;exact hp.facts q hq}⟩)
  exact (by simpa using this:K (ac.put o.dst (.slice qx xs.length xs.length)) w)
theorem C0d {w:World} {T tx ty e:TypeId} {i:TypeInfo} (ht:P.underlying T=some (.slice e)) (hi:P.info? e=some i) {b sLen sCap m TT:Nat} {x:Value} {news:List Value} {cur:Array Value} (hs:Src P i.size tx x m news w)
  (hb:w.heap[b]?=some (.cells cur TT (0,0))) (hroom:sLen+m≤sCap) (hsz:sLen * i.size+news.length≤cur.size) :
  (Builtin.append_ #[T,tx] ty #[.slice (some ⟨b,0,none⟩) sLen sCap,x]).run P w=.ok (.slice (some ⟨b,0,none⟩) (sLen+m) sCap) (w.setRow b (cur.toList.take (sLen * i.size)++news++cur.toList.drop (sLen * i.size+news.length)).toArray):=by
 have hst:=run_storeCells_at P b (sLen * i.size) TT news 0 cur w hb (by simpa using hsz) hs.one
 simp only [Nat.add_zero] at hst
 rcases hs.kind with ⟨e',hk⟩ | hk<;>simp [Builtin.append_,run_underlying ht,run_underlying hk,sizeOf,typeInfo,hi,hs.len,hroom,hs.cells,U3,hst]
theorem C2h {o:Oper} {c:Call} {T U e:Nat} {x y:Operand} {r:VR} {xs s:List UInt8} {pre post:Own} (hT:ApTy P T e 1 1) (hz:(P.info? e).bind (·.zero)=some (.int .u8 0)) (hU:P.underlying U=some .string)
  (ho:o.op=.call c) (hc:c.callee=.builtin .append) (hca:c.args=#[x,y]) (hct:c.argTypes=#[T,U]) (hx:ev E x=some (vv r xs.length)) (hy:ev E y=some (.string (bs s))) (hL:L=pre++(vo cU8 e r xs++post))
  (hok:VOk 1 xs.length r) (hb:xs.length+s.length≤140737488355328) :
  Tri P n X o E L Φ {r':VR // VOk 1 (xs++s).length r'} (fun r'=>vv r'.1 (xs++s).length) (fun r'=>pre++(vo cU8 e r'.1 (xs++s)++post)) (fun _=>Φ):=by
 intro ac w K Q hs hk
 obtain ⟨i,hi,hinf⟩:=Option.map_eq_some_iff.1 hT.info
 simp only [Prod.mk.injEq] at hinf
 obtain ⟨h4,h5,h6⟩:=hinf
 obtain ⟨i2,hi2,hz2⟩:=Option.bind_eq_some_iff.1 hz
 obtain rfl:i=i2:=by rw [hi] at hi2;exact Option.some.inj hi2
 have hsrc:=fun w'=>Src.ofString (P:=P) w' hU (bs s)
 rw [C1z] at hsrc
 have hw:=hs.world
 rw [hL] at hw
 have hsl:(bs s).size=s.length:=rfl
 refine A3b (by rw [ho];rfl) ?_
 unfold Oper.wp
 have hexec:∀ v w',(Builtin.append_ #[T,U] o.type #[vv r xs.length,.string (bs s)]).run P w=.ok v w'→(execOp ac.eval o).run P w=.ok (.value v) w':=fun v w' h=>by
  simp [execOp,ho,resolve,hc,hca,hct,C0 hs.has hx,C0 hs.has hy,invoke,builtin,h]
 obtain ⟨q,k,j⟩:=r
 by_cases hroom:xs.length+s.length≤k
 ·cases q with
  | none =>
   have h0:xs.length=0∧k=0:=hok
   have hs0:s=[]:=List.eq_nil_of_length_eq_zero (by omega)
   have hx0:xs=[]:=List.eq_nil_of_length_eq_zero h0.1
   obtain ⟨_,hk0⟩:=h0
   subst hs0 hx0 hk0
   have:=run_append_nothing (P:=P) w T U o.type e i hT.ty hi none 0 0 (Nat.le_refl _) (.string (bs [])) (by have:=hsrc w;rw [h4];exact this)
   rw [hexec _ _ this]
   exact hk ⟨⟨none,0,j⟩,hok⟩ w (by simpa using hw)
  | some b =>
   have hok':xs.length * 1+j.length=k * 1∧xs.length≤k∧k≤maxLen:=hok
   obtain ⟨p,hp⟩:=hw
   have hbk:=(hp.own.1 (bx b (xs.flatMap cU8++j) e) (List.mem_append_right _ (List.mem_append_left _ (by simp [vo])))).1
   have hfl:∀ l:List UInt8,(l.flatMap cU8).length=l.length:=fun l=>by rw [E2 (sz:=1) (fun _=>rfl)];omega
   have:=C0d (P:=P) (w:=w) (T:=T) (tx:=U) (ty:=o.type) hT.ty hi (b:=b) (sLen:=xs.length) (sCap:=k) (m:=s.length) (TT:=e) (x:=.string (bs s)) (news:=s.flatMap cU8) (cur:=(xs.flatMap cU8++j).toArray) (by rw [h4];exact hsrc w) hbk hroom (by rw [h4];simp [hfl];omega)
   rw [hexec _ _ this]
   have e1:(((xs.flatMap cU8++j).toArray.toList.take (xs.length * i.size)++s.flatMap cU8++(xs.flatMap cU8++j).toArray.toList.drop (xs.length * i.size+(s.flatMap cU8).length)).toArray)=(((xs++s).flatMap cU8)++j.drop s.length).toArray:=by
    rw [h4,Nat.mul_one,hfl]
    simp only [List.flatMap_append]
    rw [List.take_append_of_le_length (by rw [hfl];omega),List.take_of_length_le (by rw [hfl];omega),List.drop_append,hfl,List.drop_of_length_le (by rw [hfl];omega),List.nil_append,show xs.length+s.length - xs.length=s.length by omega]
   rw [e1]
   have hkp:KeptBut (([bx b (xs.flatMap cU8++j) e]:Own).map Prod.fst) w (w.setRow b (((xs++s).flatMap cU8)++j.drop s.length).toArray):=⟨rfl,rfl,rfl,by simp,fun k' hk' hm=>setRow_other w b k' _ (by rintro rfl;exact hm (by simp))⟩
   have hw2:StW X (pre++([bx b ((xs++s).flatMap cU8++j.drop s.length) e]++post)) Φ (w.setRow b (((xs++s).flatMap cU8)++j.drop s.length).toArray):=by
    refine StW.turn (L0:=[bx b (xs.flatMap cU8++j) e]) ⟨p,hp⟩ hkp ?_ (by simp)
    intro e' he
    obtain rfl:e'=_:=by simpa using he
    refine ⟨?_,.inl (by simp)⟩
    have:=setRow_heap w b _ (((xs++s).flatMap cU8)++j.drop s.length).toArray e (0,0) hbk
    simpa using this
   have:=hk ⟨⟨some b,k,j.drop s.length⟩,?_⟩ _ hw2
   ·simp only [vv,va,List.length_append] at this
    exact this
   ·refine ⟨?_,by simpa using hroom,hok'.2.2⟩
    simp only [List.length_drop,List.length_append];omega
 ·have hg:k<xs.length+s.length:=by omega
  have hpos:0<i.size:=by rw [h4];exact Nat.one_pos
  obtain ⟨p,hp⟩:=hw
  have hfl:∀ l:List UInt8,(l.flatMap cU8).length=l.length:=fun l=>by rw [E2 (sz:=1) (fun _=>rfl)];omega
  have hold:∀ w':World,(w'.heap=w.heap)→(Builtin.firstCells i.size xs.length (.slice (va q) xs.length k)).run P w'=.ok (xs.flatMap cU8).toArray w':=by
   intro w' hw'
   cases q with
   | none =>
    have h0:xs.length=0∧k=0:=hok
    have hx0:xs=[]:=List.eq_nil_of_length_eq_zero h0.1
    subst hx0
    simp [va,Builtin.firstCells]
   | some b =>
    have hbk:=(hp.own.1 (bx b (xs.flatMap cU8++j) e) (List.mem_append_right _ (List.mem_append_left _ (by simp [vo])))).1
    exact run_firstCells_some w' i.size xs.length ⟨b,0,none⟩ xs.length k (xs.flatMap cU8) (by rw [hfl,h4];omega) fun t u ht=>by
     rw [U3]
     simp only [World.cell?,hw',hbk,Nat.zero_add]
     rw [List.getElem?_toArray,List.getElem?_append_left (List.getElem?_eq_some_iff.1 ht).1]
     exact ht
  have hr:=run_append_grow_src (P:=P) w T U o.type e i (.int .u8 0) hT.ty hi hz2 (va q) xs.length k (xs.flatMap cU8) (hold w.drew rfl) (.string (bs s)) s.length (s.flatMap cU8) (by rw [h4];exact hsrc w) hg (by omega) (growslice_fits hg (by rw [h5];omega))
  rw [hexec _ _ hr]
  have hge:=grownCap_ge w (xs.length+s.length) k e
  have hcm:grownCap w (xs.length+s.length) k e≤maxLen:=grownCap_le_maxLen w (xs.length+s.length) k e (by unfold maxLen;omega)
  have hkp:KeptBut ((vo cU8 e ⟨q,k,j⟩ xs).map Prod.fst) w (w.drew.alloc (.cells ((xs.flatMap cU8++s.flatMap cU8).toArray++Builtin.zeroCells (Value.int .u8 0).cells (grownCap w (xs.length+s.length) k e - (xs.length+s.length))) e)) :=
   ⟨rfl,rfl,rfl,by simp,fun k' hk' _=>(by show (w.heap.push _)[k']?=_;rw [Array.getElem?_push,if_neg (by omega)])⟩
  have hw2:StW X (pre++([bx w.heap.size ((xs++s).flatMap cU8++(Builtin.zeroCells (Value.int .u8 0).cells (grownCap w (xs.length+s.length) k e - (xs.length+s.length))).toList) e]++post)) Φ (w.drew.alloc (.cells ((xs.flatMap cU8++s.flatMap cU8).toArray++Builtin.zeroCells (Value.int .u8 0).cells (grownCap w (xs.length+s.length) k e - (xs.length+s.length))) e)):=by
   refine StW.turn (L0:=vo cU8 e ⟨q,k,j⟩ xs) ⟨p,hp⟩ hkp ?_ (by simp)
   intro e' he
   obtain rfl:e'=_:=by simpa using he
   refine ⟨?_,.inr (Nat.le_refl _)⟩
   simp only
   rw [show (w.drew.alloc (Obj.cells ((xs.flatMap cU8++s.flatMap cU8).toArray++Builtin.zeroCells (Value.int .u8 0).cells (grownCap w (xs.length+s.length) k e - (xs.length+s.length))) e)).heap[w.heap.size]?=_ from heap_alloc_new w.drew _]
   simp [List.flatMap_append]
  have:=hk ⟨⟨some w.heap.size,grownCap w (xs.length+s.length) k e,(Builtin.zeroCells (Value.int .u8 0).cells (grownCap w (xs.length+s.length) k e - (xs.length+s.length))).toList⟩,?_⟩ _ hw2
  ·simp only [vv,va,List.length_append] at this
   exact this
  ·refine ⟨?_,by simpa using hge,hcm⟩
   have hz1:(Value.int IntKind.u8 0).cells.size=1:=rfl
   simp only [Array.length_toList,size_zeroCells,hz1,List.length_append];omega
theorem A5e {n:Int}:Value.int .u8 (IntKind.u8.wrap n)=.int .u8 ((by8 (IntKind.u8.wrap n)).toNat:Int):=by
 rw [B9f]
 unfold IntKind.wrap
 simp [IntKind.bits,IntKind.signed]
 omega
theorem B3z {op:BinOp} {a b:Int}:Value.int .u8 (bOp op .u8 a b)=.int .u8 ((by8 (bOp op .u8 a b)).toNat:Int):=by
 unfold bOp;exact A5e
end
end Go.Fen
set_option linter.unusedVariables false
set_option linter.unusedSimpArgs false
namespace Go.Fen
open Go
theorem C7.append {α:Type} {rs rs':List Slc} {xss xss':List (List α)} (h1:C7 rs xss) (h2:C7 rs' xss'):C7 (rs++rs') (xss++xss'):=by
 refine ⟨by simp [h1.1,h2.1],fun i r xs hr hx=>?_⟩
 by_cases hi:i<rs.length
 ·rw [List.getElem?_append_left hi] at hr
  rw [List.getElem?_append_left (by have:=h1.1;omega)] at hx
  exact h1.2 i r xs hr hx
 ·have:=h1.1
  rw [List.getElem?_append_right (by omega)] at hr
  rw [List.getElem?_append_right (by omega)] at hx
  exact h2.2 (i - rs.length) r xs hr (by rw [this];exact hx)
theorem C7.set {α:Type} {rs:List Slc} {xss:List (List α)} (h:C7 rs xss) (k:Nat) {r:Slc} {xs:List α} (hr:r.n=xs.length∧r.n≤r.k∧xs.length≤9223372036854775807):C7 (rs.set k r) (xss.set k xs):=by
 refine ⟨by simp [h.1],fun i r' xs' h1 h2=>?_⟩
 rw [List.getElem?_set] at h1 h2
 by_cases hk:k=i
 ·subst hk
  simp only [if_true] at h1 h2
  split at h1
  ·split at h2
   ·obtain rfl:=Option.some.inj h1
    obtain rfl:=Option.some.inj h2
    exact hr
   ·cases h2
  ·cases h1
 ·simp only [hk,if_false] at h1 h2
  exact h.2 i r' xs' h1 h2
section
variable {P:Program} {n:Nat} {X:Cx} {K:Act→World→Prop} {Q:Exit→Act→World→Prop} {E E':Env} {L L':Own} {Φ Φ':List Pers}
theorem B4v {α:Type} {c:α→List Value} {rs rs':List Slc} {xss xss':List (List α)} (hl:rs.length=xss.length) (h1:O7 Φ (G5 c rs xss)) (h2:O7 Φ (G5 c rs' xss')):O7 Φ (G5 c (rs++rs') (xss++xss')):=fun p hp i r xs hr hx=>by
 by_cases hi:i<rs.length
 ·rw [List.getElem?_append_left hi] at hr
  rw [List.getElem?_append_left (by omega)] at hx
  exact h1 p hp i r xs hr hx
 ·rw [List.getElem?_append_right (by omega)] at hr
  rw [List.getElem?_append_right (by omega)] at hx
  exact h2 p hp (i - rs.length) r xs hr (by rw [hl];exact hx)
theorem B3d {α:Type} {c:α→List Value} {rs:List Slc} {xss:List (List α)} (k:Nat) {r:Slc} {xs:List α} (h1:O7 Φ (G5 c rs xss)) (h2:O7 Φ (sl c r.q xs)):O7 Φ (G5 c (rs.set k r) (xss.set k xs)):=fun p hp i r' xs' hr hx=>by
 rw [List.getElem?_set] at hr hx
 by_cases hk:k=i
 ·subst hk
  simp only [if_true] at hr hx
  split at hr
  ·split at hx
   ·obtain rfl:=Option.some.inj hr
    obtain rfl:=Option.some.inj hx
    exact h2 p hp
   ·cases hx
  ·cases hr
 ·simp only [hk,if_false] at hr hx
  exact h1 p hp i r' xs' hr hx
theorem A8q {o:Oper} {c:Call} {T e by':Nat} {x y:Operand} {α:Type} {cc:α→List Value} {r:VR} {rs ys:List Slc} {xss yss:List (List α)} {q:Option Addr} {k m kk:Nat} {pre post:Own} (hT:ApTy P T e 1 by')
  (ho:o.op=.call c) (hc:c.callee=.builtin .append) (hca:c.args=#[x,y]) (hct:c.argTypes=#[T,T]) (hx:ev E x=some (vv r k)) (hk:k=xss.length) (hy:ev E y=some (.slice q m kk)) (hm:m=yss.length) (hL:L=pre++(vo C4 e r rs++post))
  (hq:O7 Φ (sl C4 q ys)) (h1:O7 Φ (G5 cc rs xss)) (h2:O7 Φ (G5 cc ys yss)) (ok1:C7 rs xss) (ok2:C7 ys yss) (hok:VOk 1 xss.length r) (hb:(xss.length+yss.length) * by'≤140737488355328) (h63:xss.length+yss.length≤9223372036854775807) :
  Tri P n X o E L Φ {r':VR // VOk 1 (xss++yss).length r'} (fun r'=>vv r'.1 (xss++yss).length) (fun r'=>pre++(vo C4 e r'.1 (rs++ys)++post)) (fun _=>G5 cc (rs++ys) (xss++yss)::Φ):=by
 have e1:=ok1.1
 have e2:=ok2.1
 have e3:(rs++ys).length=(xss++yss).length:=by simp [e1,e2]
 intro ac w K Q hs hK
 refine A4o (f:=C4) (xs:=rs) (ys:=ys) hT (fun _=>rfl) (fun _=>rfl) ho hc hca hct (by rw [e1,← hk];exact hx) hy (by omega) hL hq (by rw [e1];exact hok) (by rw [e1,e2];exact hb) (by omega) ac w K Q hs fun r' w' hw=>?_
 have:=hK ⟨r'.1,e3▸r'.2⟩ w' (by
  obtain ⟨p,hp⟩:=hw
  exact ⟨p,{hp with facts:=fun z hz=>by rcases List.mem_cons.1 hz with rfl | hz;exact B4v e1 h1 h2 p hp.facts;exact hp.facts z hz}⟩)
 simp only [e3]
 exact this
theorem C1f {w:World} {T tx ty e:TypeId} {i:TypeInfo} {z:Value} (ht:P.underlying T=some (.slice e)) (hx:P.underlying tx=some (.int .i64)) (hi:P.info? e=some i) (hz:i.zero=some z) (m:Nat) (h0:0<m)
  (h63:m≤9223372036854775807) (h48:m * i.bytes≤281474976710656) (hs:0<i.size) :
  (Builtin.append_ #[T,tx] ty #[.slice none 0 0,.int .i64 m]).run P w =
   .ok (.slice (some ⟨w.heap.size,0,none⟩) m (grownCap w m 0 e)) (w.drew.alloc (.cells (Builtin.zeroCells z.cells m++Builtin.zeroCells z.cells (grownCap w m 0 e - m)) e)):=by
 have hn:m≠0:=by omega
 have h63':¬ (9223372036854775807<(m:Int)):=by omega
 have h48':¬ (281474976710656<Builtin.nextslicecap m 0 * i.bytes):=by rw [nextslicecap_zero h0];omega
 have hw:IntKind.i64.wrap (m:Int)=m:=A4b (by show (-9223372036854775808:Int)≤_;omega) (by show _≤(9223372036854775807:Int);omega)
 have hneg:¬ ((m:Int)<0):=by omega
 have hb:¬ (281474976710656<(m:Int) * (i.bytes:Int)):=by omega
 have hsz:i.size≠0:=by omega
 simp [Builtin.append_,run_underlying ht,run_underlying hx,sizeOf,typeInfo,zeroValue,hi,hz,Builtin.lenOf,hn,h63',h48',hw,hneg,hb,hsz,Question.forced,run_firstCells_none,newRow,grownCap,asInt,asIntOf]
 intro h;exact absurd h (Nat.mul_ne_zero hn hsz)
theorem C0i {o:Oper} {c:Call} {T tx e sz by' m:Nat} {x y:Operand} {α:Type} {f:α→List Value} (hT:ApTy P T e sz by') (htx:P.underlying tx=some (.int .i64))
  (ho:o.op=.call c) (hc:c.callee=.builtin .append) (hca:c.args=#[x,y]) (hct:c.argTypes=#[T,tx]) (hx:ev E x=some (.slice none 0 0)) (hy:ev E y=some (.int .i64 (m:Int))) (h0:0<m) (hb:m * by'≤140737488355328) (h63:m≤9223372036854775807) :
  Tri P n X o E L Φ {r':VR // VOk sz 0 r'∧m≤r'.k} (fun r'=>.slice (va r'.1.q) m r'.1.k) (fun r'=>L++(vo f e r'.1 []++[])) (fun _=>Φ):=by
 intro ac w K Q hs hk
 obtain ⟨i,hi,hinf⟩:=Option.map_eq_some_iff.1 hT.info
 simp only [Prod.mk.injEq] at hinf
 obtain ⟨h4,h5,h6⟩:=hinf
 obtain ⟨z,hz,h6⟩:=Option.map_eq_some_iff.1 h6
 have hpos:0<sz:=by simpa [Nat.blt_eq] using hT.pos
 have hge:=grownCap_ge w m 0 e
 have hle:=grownCap_le_maxLen w m 0 e (by simp only [maxLen];omega)
 refine A3b (by rw [ho];rfl) ?_
 unfold Oper.wp
 rw [show (execOp ac.eval o).run P w=.ok (.value (.slice (some ⟨w.heap.size,0,none⟩) m (grownCap w m 0 e))) (w.drew.alloc (.cells (Builtin.zeroCells z.cells m++Builtin.zeroCells z.cells (grownCap w m 0 e - m)) e)) by
  simp [execOp,ho,resolve,hc,hca,hct,C0 hs.has hx,C0 hs.has hy,invoke,builtin,C1f (P:=P) (ty:=o.type) hT.ty htx hi hz m h0 h63 (by rw [h5];omega) (by omega)]]
 obtain ⟨cur,hcur⟩:∃ cur,cur=Builtin.zeroCells z.cells m++Builtin.zeroCells z.cells (grownCap w m 0 e - m):=⟨_,rfl⟩
 rw [← hcur]
 have hlen:cur.toList.length=grownCap w m 0 e * sz:=by
  rw [hcur];simp only [Array.length_toList,Array.size_append,size_zeroCells,h6,← Nat.add_mul];congr 1;omega
 have:=hk ⟨⟨some w.heap.size,grownCap w m 0 e,cur.toList⟩,⟨by simp [hlen],Nat.zero_le _,hle⟩,hge⟩ (w.drew.alloc (.cells cur e)) (by
  refine StW.turn (L0:=[]) (show StW X (L++([]++[])) Φ w by simpa using hs.world) ⟨rfl,rfl,rfl,by simp,fun k hk' _=>heap_alloc_old w.drew _ hk'⟩ ?_ (by simp [vo])
  intro e' he
  obtain rfl:e'=_:=by simpa [vo] using he
  exact ⟨by simpa using heap_alloc_new w.drew (.cells cur e),.inr (Nat.le_refl _)⟩)
 exact (by simpa [va] using this:K (ac.put o.dst (.slice (some ⟨w.heap.size,0,none⟩) m (grownCap w m 0 e))) (w.drew.alloc (.cells cur e)))
theorem C2d {ops:Array Oper} {fuel:Nat} {listed:Array Bool} {held:Y9} {Φs:List Pers} {q:Pers} (hq:O7 Φ q) (h:JH P n X ops fuel listed K held Φs E L (q::Φ)):JH P n X ops fuel listed K held Φs E L Φ :=
 ⟨fun h1 h2 hsz hL hΦ a w hs=>h.go h1 h2 hsz hL (fun p hp=>hΦ p (fun z hz=>hp z (List.mem_cons_of_mem _ hz))) a w ⟨hs.size,hs.defers,hs.has,hs.world.fact q hq⟩⟩
theorem C5s {o:Oper} {c:Call} {T e sz:Nat} {x:Operand} {q:Option Addr} {m k:Nat} (hT:SlTy P T e sz) (ho:o.op=.call c) (hc:c.callee=.builtin .cap) (hca:c.args=#[x]) (hct:c.argTypes=#[T]) (hx:ev E x=some (.slice q m k)):I9 P X o E L Φ (.int .i64 k):=.of_run fun ac w ha _=>by
 simp [execOp,ho,resolve,hc,hca,hct,C0 ha hx,invoke,builtin,Builtin.cap_,run_underlying hT.ty,goInt]
end
end Go.Fen
set_option linter.unusedVariables false
set_option linter.unusedSimpArgs false
namespace Go.Fen
open Go Go.RowKit
section
variable {P:Program} {n:Nat} {X:Cx} {K:Act→World→Prop} {Q:Exit→Act→World→Prop} {E E':Env} {L L':Own} {Φ Φ':List Pers}
theorem D1f {ops:Array Oper} {fuel:Nat} {listed:Array Bool} {held:Y9} {Φs:List Pers} {α:Type} {c:α→List Value} {T:Nat} {r:VR} {xs:List α} (pre post:Own) {sz:Nat} (hok:VOk sz xs.length r) (hL:L=pre++(vo c T r xs++post))
  (Lh:Own) (hh:held.at listed=Lh) (hm:Lh.Sublist (pre++post)) (h:JH P n X ops fuel listed K held Φs E (pre++post) (sl c (va r.q) xs::Φ)):JH P n X ops fuel listed K held Φs E L Φ :=
 ⟨fun h1 h2 hsz _ hΦ a w hs=>h.go h1 h2 hsz (hh▸hm) (fun p hp=>hΦ p (fun z hz=>hp z (List.mem_cons_of_mem _ hz))) a w ⟨hs.size,hs.defers,hs.has,by have:=hs.world;rw [hL] at this;exact this.sealed hok⟩⟩
theorem B9t {α:Type} {c:α→List Value} {sz:Nat} (hc:∀ x,(c x).length=sz) (d:α):∀ (xs:List α) (k:Nat),k<xs.length→((xs.flatMap c).drop (k * sz)).take sz=c (xs.getD k d)
 | [],k,h=>by simp at h
 | x::xs,0,_=>by simp [List.take_append_of_le_length,← hc x]
 | x::xs,k+1,h=>by
  have:=B9t hc d xs k (by simpa using h)
  rw [List.flatMap_cons,Nat.succ_mul,Nat.add_comm,← List.drop_drop,← hc x,List.drop_left,hc x,this];simp
theorem B3u {α:Type} {c:α→List Value} {sz:Nat} (hc:∀ x,(c x).length=sz) (d:α) {xs:List α} {k j:Nat} (hk:k<xs.length) (hj:j<sz):(xs.flatMap c)[k * sz+j]?=(c (xs.getD k d))[j]?:=by
 rw [← B9t hc d xs k hk,List.getElem?_take,if_pos hj,List.getElem?_drop]
theorem D1t {α:Type} {f:α→List Value} {sz:Nat} (hf:∀ x,(f x).length=sz) (d:α) (n:Nat):(madeCells (f d).toArray (n * sz)).toList=(List.replicate n d).flatMap f:=by
 apply List.ext_getElem?
 intro i
 by_cases h0:sz=0
 ·have:(List.replicate n d).flatMap f=[]:=List.length_eq_zero_iff.1 (by rw [E2 hf];simp [h0])
  rw [this];simp [madeCells,h0]
 ·by_cases hi:i<n * sz
  ·have hk:i / sz<n:=by rw [Nat.div_lt_iff_lt_mul (by omega)];exact hi
   have hj:i % sz<sz:=Nat.mod_lt _ (by omega)
   have e:i / sz * sz+i % sz=i:=by rw [Nat.mul_comm];exact Nat.div_add_mod i sz
   have h1:=B3u hf d (xs:=List.replicate n d) (k:=i / sz) (j:=i % sz) (by simpa using hk) hj
   rw [e] at h1
   rw [h1]
   have:(List.replicate n d).getD (i / sz) d=d:=by simp [List.getD_eq_getElem?_getD,List.getElem?_replicate,hk]
   rw [this]
   simp [madeCells,hi,hf,hj]
  ·rw [List.getElem?_eq_none (by simp [madeCells];omega),List.getElem?_eq_none (by rw [E2 hf];simp;omega)]
theorem A9p {o:Oper} {T e sz by' l c:Nat} {x y:Operand} {α:Type} {f:α→List Value} (d:α) (hT:ApTy P T e sz by') (hz:((P.info? e).bind (·.zero)).map (·.cells)=some (f d).toArray) (hf:∀ x,(f x).length=sz)
  (ho:o.op=.makeSlice T x y) (hx:ev E x=some (.int .i64 (l:Int))) (hy:ev E y=some (.int .i64 (c:Int))) (hlc:l≤c) (hb:c * by'≤140737488355328) (h63:c≤9223372036854775807) :
  Tri P n X o E L Φ {r':VR // VOk sz (List.replicate l d).length r'} (fun r'=>.slice (va r'.1.q) (List.replicate l d).length r'.1.k) (fun r'=>L++(vo f e r'.1 (List.replicate l d)++[])) (fun _=>Φ):=by
 intro ac w K Q hs hk
 obtain ⟨i,hi,hinf⟩:=Option.map_eq_some_iff.1 hT.info
 simp only [Prod.mk.injEq] at hinf
 obtain ⟨h4,h5,h6⟩:=hinf
 obtain ⟨z,hzz,h7⟩:=Option.map_eq_some_iff.1 h6
 have hzc:z.cells=(f d).toArray:=by simpa [hi,hzz] using hz
 have hbb:(i.bytes:Int) * (c:Int)≤281474976710656:=by
  have h:((c * by':Nat):Int)≤140737488355328:=by omega
  rw [Int.natCast_mul,Int.mul_comm] at h
  rw [h5];omega
 have hr:=run_make (P:=P) w T e i z hT.ty hi hzz .i64 .i64 l c (by omega) (by omega) hbb (by omega)
 simp only [Int.toNat_natCast,h4,hzc] at hr
 refine A3b (by rw [ho];rfl) ?_
 unfold Oper.wp
 rw [show (execOp ac.eval o).run P w=.ok (.value (.slice (some ⟨w.heap.size,0,none⟩) l c)) (w.alloc (.cells (madeCells (f d).toArray (c * sz)) e)) by
  simp [execOp,ho,C0 hs.has hx,C0 hs.has hy,hr]]
 have hsp:(madeCells (f d).toArray (c * sz)).toList=(List.replicate l d).flatMap f++(List.replicate (c - l) d).flatMap f:=by
  rw [D1t hf,← List.flatMap_append,List.replicate_append_replicate];congr 2;omega
 have hl2:((List.replicate (c - l) d).flatMap f).length=(c - l) * sz:=by rw [E2 hf,List.length_replicate]
 have:=hk ⟨⟨some w.heap.size,c,(List.replicate (c - l) d).flatMap f⟩,by
  refine ⟨?_,by simpa using hlc,by simp only [maxLen];omega⟩
  simp only [List.length_replicate,hl2,← Nat.add_mul];congr 1;omega⟩ (w.alloc (.cells (madeCells (f d).toArray (c * sz)) e)) (by
  refine StW.turn (L0:=[]) (show StW X (L++([]++[])) Φ w by simpa using hs.world) ⟨rfl,rfl,rfl,by simp,fun k hk' _=>heap_alloc_old w _ hk'⟩ ?_ (by simp [vo])
  intro e' he
  obtain rfl:e'=_:=by simpa [vo] using he
  refine ⟨?_,.inr (Nat.le_refl _)⟩
  rw [← hsp]
  simpa using heap_alloc_new w (.cells (madeCells (f d).toArray (c * sz)) e))
 exact (by simpa [va] using this:K (ac.put o.dst (.slice (some ⟨w.heap.size,0,none⟩) l c)) (w.alloc (.cells (madeCells (f d).toArray (c * sz)) e)))
theorem C4w {o:Oper} {c:Call} {T e sz by':Nat} {x y:Operand} {q q':Option Addr} {m k cc:Nat} (hT:ApTy P T e sz by') (ho:o.op=.call c) (hc:c.callee=.builtin .append) (hca:c.args=#[x,y]) (hct:c.argTypes=#[T,T])
  (hx:ev E x=some (.slice q m k)) (hy:ev E y=some (.slice q' 0 cc)) (hm:m≤k):I9 P X o E L Φ (.slice q m k):=.of_run fun ac w ha _=>by
 obtain ⟨i,hi,_⟩:=Option.map_eq_some_iff.1 hT.info
 have:=B6e (P:=P) (w:=w) (ty:=o.type) hT.ty hi q q' m k hm cc
 simp [execOp,ho,resolve,hc,hca,hct,C0 ha hx,C0 ha hy,invoke,builtin,this]
end
theorem C7z (a b:Int):(if b<a then b else a)≤a∧(if b<a then b else a)≤b∧((if b<a then b else a)=a∨(if b<a then b else a)=b):=by split<;>omega
theorem C0q (a b:Int):a≤(if b > a then b else a)∧b≤(if b > a then b else a)∧((if b > a then b else a)=a∨(if b > a then b else a)=b):=by split<;>omega
def F1 {α β:Type} (x:α) (k:α→β):β:=k x
theorem G6 {α β:Type} {x:α} {k:α→β} {R:β} (h:F1 x k=R):∃ r,x=r∧k r=R:=⟨x,rfl,h⟩
@[simp] theorem D6i {α β:Type} (x:α) (k:α→β):F1 x k=k x:=rfl
end Go.Fen
set_option linter.unusedVariables false
set_option linter.unusedSimpArgs false
namespace Go.Fen
open Go Go.RowKit
def lkV (k:Int) (z:Value):List (Int×Value)→Value
 | []=>z
 | (a,v)::r=>bif decide (k=a) then v else lkV k z r
def C0t {α:Type} (k:Int):List (Int×α)→Bool
 | []=>false
 | (a,_)::r=>bif decide (k=a) then true else C0t k r
def C2:List (Int×Value)→Nat→List MapEntry
 | [],_=>[]
 | (a,v)::r,j=>⟨.int .i64 a,v,j⟩::C2 r (j+1)
section
variable {P:Program} {n:Nat} {X:Cx} {K:Act→World→Prop} {Q:Exit→Act→World→Prop} {E E':Env} {L L':Own} {Φ Φ':List Pers}
def B4p (P:Program) (fv:Value) (args:List Value) (Φ0:List Pers) (v:Value):Prop :=
 ∃ (k:FuncId) (first cap:Array Value),fv=.func (.func k) first cap∧I6 P k ((first++args.toArray++cap).toList) Φ0 v
theorem B4p.of {k:FuncId} {first cap:Array Value} {args args':List Value} {Φ0 Φ1:List Pers} {v:Value} (h:I6 P k args' Φ1 v) (ha:(first++args.toArray++cap).toList=args') (hf:A2 Φ0 Φ1):B4p P (.func (.func k) first cap) args Φ0 v :=
 ⟨k,first,cap,rfl,ha▸⟨h.1,fun w p hq hs ho=>h.2 w p (hf p hq) hs ho⟩⟩
theorem B4p.cons {ρ:Type} (val:ρ→Value) {k a:Int} {z v:Value} {l:List (Int×Value)} {args:List Value} {Φ0:List Pers} {r1 r2:ρ} (h:C0t k ((a,v)::l)=true) (h1:k=a→B4p P v args Φ0 (val r1)) (h2:C0t k l=true→¬ k=a→B4p P (lkV k z l) args Φ0 (val r2)) :
  B4p P (lkV k z ((a,v)::l)) args Φ0 (val (bif decide (k=a) then r1 else r2)):=by
 by_cases e:k=a
 ·simpa [lkV,e] using h1 e
 ·simpa [lkV,e] using h2 (by simpa [C0t,e] using h) e
theorem B4p.nil {k:Int} {z v:Value} {args:List Value} {Φ0:List Pers} (h:C0t k ([]:List (Int×Value))=true):B4p P z args Φ0 v:=by cases h
def B4o (P:Program) (fv:Value) (args:List Value) (Φ0:List Pers) {ρ:Type} (pv:Value) (R:Option ρ) (val:ρ→Value):Prop :=
 ∃ (k:FuncId) (first cap:Array Value),fv=.func (.func k) first cap∧B7u P k ((first++args.toArray++cap).toList) [] Φ0 pv R val
theorem B4o.of {k:FuncId} {first cap:Array Value} {args args':List Value} {Φ0 Φ1:List Pers} {ρ:Type} {pv:Value} {R:Option ρ} {val:ρ→Value} (h:B7u P k args' [] Φ1 pv R val) (ha:(first++args.toArray++cap).toList=args') (hf:A2 Φ0 Φ1):B4o P (.func (.func k) first cap) args Φ0 pv R val :=
 ⟨k,first,cap,rfl,ha▸⟨h.1,fun w p hq hs ho=>h.2 w p (hf p hq) hs ho⟩⟩
theorem B4o.cons {ρ:Type} {pv:Value} {val:ρ→Value} {k a:Int} {z v:Value} {l:List (Int×Value)} {args:List Value} {Φ0:List Pers} {r1 r2:Option ρ} (h:C0t k ((a,v)::l)=true) (h1:k=a→B4o P v args Φ0 pv r1 val) (h2:C0t k l=true→¬ k=a→B4o P (lkV k z l) args Φ0 pv r2 val) :
  B4o P (lkV k z ((a,v)::l)) args Φ0 pv (bif decide (k=a) then r1 else r2) val:=by
 by_cases e:k=a
 ·simpa [lkV,e] using h1 e
 ·simpa [lkV,e] using h2 (by simpa [C0t,e] using h) e
theorem B4o.nil {k:Int} {z:Value} {args:List Value} {Φ0:List Pers} {ρ:Type} {pv:Value} {R:Option ρ} {val:ρ→Value} (h:C0t k ([]:List (Int×Value))=true):B4o P z args Φ0 pv R val:=by cases h
theorem B6p {β:Type} {c:β→List Value} {n:Nat}:O7 Φ (G5 c (List.replicate n (⟨none,0,0⟩:Slc)) (List.replicate n ([]:List β))):=fun p hp i r xs h1 h2=>by
 rw [List.getElem?_replicate] at h1 h2
 split at h1
 ·cases h1;rw [if_pos (by assumption)] at h2;cases h2;exact rfl
 ·cases h1
theorem C7.rep {β:Type} (n:Nat):C7 (List.replicate n (⟨Option.none,0,0⟩:Slc)) (List.replicate n ([]:List β)):=⟨by simp,fun i r xs h1 h2=>by
 rw [List.getElem?_replicate] at h1 h2
 split at h1
 ·cases h1;rw [if_pos (by assumption)] at h2;cases h2;exact ⟨rfl,Nat.le_refl _,by simp⟩
 ·cases h1⟩
theorem B9b {o:Oper} {T e by' l c:Nat} {x y:Operand} {β:Type} (hT:ApTy P T e 1 by') (hz:((P.info? e).bind (·.zero)).map (·.cells)=some #[.slice none 0 0])
  (ho:o.op=.makeSlice T x y) (hx:ev E x=some (.int .i64 (l:Int))) (hy:ev E y=some (.int .i64 (c:Int))) (hlc:l≤c) (hb:c * by'≤140737488355328) (h63:c≤9223372036854775807) :
  Tri P n X o E L Φ {r':VR // VOk 1 (List.replicate l ([]:List β)).length r'} (fun r'=>.slice (va r'.1.q) (List.replicate l ([]:List β)).length r'.1.k) (fun r'=>L++(vo C4 e r'.1 (List.replicate l (⟨none,0,0⟩:Slc))++[])) (fun _=>Φ):=by
 have:=A9p (P:=P) (n:=n) (X:=X) (E:=E) (L:=L) (Φ:=Φ) (f:=C4) (⟨none,0,0⟩:Slc) hT hz (fun _=>rfl) ho hx hy hlc hb h63
 have e1:(List.replicate l ([]:List β)).length=(List.replicate l (⟨none,0,0⟩:Slc)).length:=by simp
 rw [e1]
 exact this
end
end Go.Fen
set_option linter.unusedVariables false
set_option linter.unusedSimpArgs false
namespace Go.Fen
open Go Go.RowKit
section
variable {P:Program} {n:Nat} {X:Cx} {K:Act→World→Prop} {Q:Exit→Act→World→Prop} {E E':Env} {L L':Own} {Φ Φ':List Pers}
end
end Go.Fen
set_option linter.unusedVariables false
set_option linter.unusedSimpArgs false
namespace Go.Fen
open Go Go.RowKit Go.ChangeShapes
section
variable {P:Program}
def Cod (P:Program) (T:TypeId) (α:Type) (c:α→List Value) (D:{H:Type}→DataW H→α→Prop) (p:Hp→α→Prop):Prop :=
 ∀ {H:Type} {enc:TypeId×Value→H} {w:World} {base:Nat} {sp:Nat→Bool} {held:Bool} {fuel:Nat} {cs:List Value} {x:DataW H×List MemPlace},
  DataW.trod enc P w base sp held fuel T cs=some x→∃ a:α,cs=c a∧D x.1 a∧p (fun b=>w.heap[b]?) a
def A7d {H:Type} (d:DataW H) (n:Int):Prop:=d=.lit (.int .i64 n)
def A4t {H:Type} (d:DataW H) (b:Bool):Prop:=d=.lit (.bool b)
def D6o {H:Type} (d:DataW H) (s:List UInt8):Prop:=d=.lit (.string s)
def Z9 (n:Int):Prop:=-9223372036854775808≤n∧n≤9223372036854775807
theorem D4t {k:IntKind} {n:Int} (h:(Lit.int k n).wf=true):k.min≤n∧n≤k.max:=by
 simpa only [Lit.wf,decide_eq_true_eq,Bool.and_eq_true] using h
theorem O3 {T:TypeId} (ht:P.underlying T=some (.int .i64)):Cod P T Int K8 A7d (fun _=>Z9):=fun h=>by
 obtain ⟨n,rfl,rfl,hw⟩:=DataW.trod_int ht h
 exact ⟨n,rfl,rfl,D4t hw⟩
theorem Q6 {T:TypeId} (ht:P.underlying T=some .bool):Cod P T Bool F4 A4t (fun _ _=>True):=fun h=>by
 obtain ⟨b,rfl,rfl⟩:=DataW.trod_bool ht h
 exact ⟨b,rfl,rfl,trivial⟩
theorem D0s {T:TypeId} (ht:P.underlying T=some .string):Cod P T (List UInt8) D3b D6o (fun _ s=>s.length≤9223372036854775807):=fun h=>by
 obtain ⟨s,rfl,rfl,hs⟩:=DataW.trod_string ht h
 refine ⟨s.data.toList,by simp [D3b,bs],rfl,?_⟩
 have e:s.data.toList.length=s.size:=by simp
 show s.data.toList.length≤9223372036854775807
 rw [e];simpa [maxLen] using hs
theorem A9h {α β:Type} {f:α→Option β} {l:List α} {r:List β} (h:l.mapM f=some r) (i:Nat) (a:α) (ha:l[i]?=some a):∃ b,r[i]?=some b∧f a=some b:=Lib.mapM_at h i a ha
theorem C1 {cs:List Value} {o n m:Nat} {u rest:List Value} (h:(cs.drop o).take n=u) (hr:cs.drop m=rest) (hm:o+n=m):cs.drop o=u++rest:=by
 subst h hr hm;rw [← List.drop_drop,List.take_append_drop]
theorem U8 {H:Type} {enc:TypeId×Value→H} {w:World} {base:Nat} {sp:Nat→Bool} {held:Bool} {fuel:Nat} {T:TypeId} {cs:List Value} {x:DataW H×List MemPlace} {fs:Array Field}
  (ht:P.underlying T=some (.struct fs)) (h:DataW.trod enc P w base sp held fuel T cs=some x) :
  cs.length=P.cellsOf T∧∃ (n:Nat) (ys:List (DataW H×List MemPlace)),fuel=n+1∧x.1=.agg (ys.map (·.1))∧ys.length=fs.size∧∀ (i:Nat) f,fs[i]?=some f→∃ y,ys[i]?=some y∧DataW.trod enc P w base sp held n f.type ((cs.drop f.offset).take (P.cellsOf f.type))=some y:=by
 cases fuel with
 | zero=>simp [DataW.trod] at h
 | succ n =>
  unfold DataW.trod at h
  simp only [ht] at h
  split at h
  ·rename_i hl
   obtain ⟨ys,hm,rfl⟩:=Option.map_eq_some_iff.1 h
   refine ⟨hl,n,ys,rfl,rfl,by simpa using Lib.mapM_length hm,fun i f hf=>?_⟩
   exact A9h hm i f (by simpa using hf)
  ·cases h
theorem B1j {H:Type} {enc:TypeId×Value→H} {w:World} {base:Nat} {sp:Nat→Bool} {held:Bool} {fuel:Nat} {T e:TypeId} {k:Nat} {cs:List Value} {x:DataW H×List MemPlace}
  (ht:P.underlying T=some (.array k e)) (h:DataW.trod enc P w base sp held fuel T cs=some x) :
  cs.length=P.cellsOf T∧∃ (n:Nat) (ys:List (DataW H×List MemPlace)),fuel=n+1∧x.1=.agg (ys.map (·.1))∧ys.length=k∧∀ (i:Nat),i<k→∃ y,ys[i]?=some y∧DataW.trod enc P w base sp held n e ((cs.drop (i * P.cellsOf e)).take (P.cellsOf e))=some y:=by
 cases fuel with
 | zero=>simp [DataW.trod] at h
 | succ n =>
  unfold DataW.trod at h
  simp only [ht] at h
  split at h
  ·rename_i hl
   obtain ⟨ys,hm,rfl⟩:=Option.map_eq_some_iff.1 h
   refine ⟨hl,n,ys,rfl,rfl,by simpa using Lib.mapM_length hm,fun i hi=>?_⟩
   exact A9h hm i i (by simp [hi])
  ·cases h
abbrev A9e (w:World):Hp:=fun b=>w.heap[b]?
theorem C7j {w:World} {base:Nat} {a:Addr} {n:Nat} {us:List Value} (h:w.cells? base a n=some us):us.length=n∧∀ j,j<n→w.cell? (a.add j)=us[j]?:=by
 unfold World.cells? at h
 split at h
 ·refine ⟨by simpa using Lib.mapM_length h,fun j hj=>?_⟩
  obtain ⟨b,hb,hc⟩:=A9h h j j (by simp [hj])
  rw [hc,hb]
 ·cases h
theorem B9e {w:World} {a:Addr} {v:Value} (h:w.cell? a=some v):a.spot=none∧∃ c T fr,w.heap[a.block]?=some (.cells c T fr)∧c[a.off]?=some v:=by
 unfold World.cell? at h
 cases hs:a.spot with
 | none =>
  rw [hs] at h
  split at h<;>simp_all
 | some s=>rw [hs] at h;split at h<;>simp_all
theorem B9s (a:Addr) (n:Nat):(a.add n).block=a.block:=by unfold Addr.add;split<;>rfl
theorem D0w (a:Addr) (n:Nat):(a.add n).off=a.off+n:=by unfold Addr.add;split<;>simp_all
theorem C8r (a:Addr) (n m:Nat):(a.add n).add m=a.add (n+m):=by
 unfold Addr.add
 split<;>split<;>split<;>simp_all [Nat.add_assoc]
theorem C1m {T e sz:TypeId} {α:Type} {c:α→List Value} {D:{H:Type}→DataW H→α→Prop} {p:Hp→α→Prop} (hc:Cod P e α c D p) (hcl:∀ x,(c x).length=sz) (hsz:P.cellsOf e=sz) (h0:0<sz) (ht:P.underlying T=some (.slice e))
  {H:Type} {enc:TypeId×Value→H} {w:World} {base:Nat} {sp:Nat→Bool} {held:Bool} {fuel:Nat} {cs:List Value} {x:DataW H×List MemPlace} (h:DataW.trod enc P w base sp held fuel T cs=some x) :
  ∃ (q:Option Addr) (k:Nat) (xs:List α),cs=[.slice q xs.length k]∧xs.length≤k∧k≤9223372036854775807∧(∀ a ∈ xs,p (A9e w) a)∧(sl c q xs).p (A9e w) ∧
   ((q=none∧xs=[]∧k=0)∨∃ (es rest:List (DataW H)),x.1=.slice es rest∧es.length=xs.length∧∀ (i:Nat) (d:DataW H) (a:α),es[i]?=some d→xs[i]?=some a→D d a):=by
 cases fuel with
 | zero=>simp [DataW.trod] at h
 | succ n =>
  unfold DataW.trod at h
  simp only [ht] at h
  split at h
  all_goals try (simp_all;done)
  ·rename_i heq
   simp only [Option.some.injEq,TypeDesc.slice.injEq] at heq
   exact ⟨none,0,[],rfl,Nat.le_refl _,Nat.zero_le _,by simp,rfl,.inl ⟨rfl,rfl,rfl⟩⟩
  ·rename_i e' a len cap heq
   simp only [Option.some.injEq,TypeDesc.slice.injEq] at heq
   subst heq
   split at h
   ·rename_i hb
    obtain ⟨hb1,hb2,hb3⟩:=hb
    obtain ⟨es,hm,h⟩:=Option.bind_eq_some_iff.1 h
    obtain ⟨rest,_,rfl⟩:=Option.map_eq_some_iff.1 h
    have hlen:es.length=len:=by simpa using Lib.mapM_length hm
    have hel:∀ i,i<len→∃ y,es[i]?=some y∧∃ us,w.cells? base (a.add (i * P.cellsOf e)) (P.cellsOf e)=some us∧DataW.trod enc P w base sp held n e us=some y:=fun i hi=>by
     obtain ⟨y,hy,hyy⟩:=A9h hm i i (by simp [hi])
     obtain ⟨us,hu,hut⟩:=Option.bind_eq_some_iff.1 hyy
     exact ⟨y,hy,us,hu,hut⟩
    have hex:∀ m,m≤len→∃ xs:List α,xs.length=m∧(∀ a ∈ xs,p (A9e w) a)∧∀ i,i<m→∃ y v,es[i]?=some y∧xs[i]?=some v∧D y.1 v∧w.cells? base (a.add (i * P.cellsOf e)) (P.cellsOf e)=some (c v):=by
     intro m
     induction m with
     | zero=>exact fun _=>⟨[],rfl,by simp,fun i hi=>by omega⟩
     | succ m ih =>
      intro hmm
      obtain ⟨xs,hxl,hxp,hx⟩:=ih (by omega)
      obtain ⟨y,hy,us,hu,hut⟩:=hel m (by omega)
      obtain ⟨v,rfl,hd,hp⟩:=hc hut
      refine ⟨xs++[v],by simp [hxl],fun a ha=>?_,fun i hi=>?_⟩
      ·rcases List.mem_append.1 ha with ha | ha
       ·exact hxp a ha
       ·rw [List.mem_singleton.1 ha];exact hp
      ·by_cases him:i<m
       ·obtain ⟨y',v',h1,h2,h3,h4⟩:=hx i him
        exact ⟨y',v',h1,by rw [List.getElem?_append_left (by omega)];exact h2,h3,h4⟩
       ·obtain rfl:i=m:=by omega
        exact ⟨y,v,hy,by rw [List.getElem?_append_right (by omega),hxl];simp,hd,hu⟩
    obtain ⟨xs,hxl,hxp,hx⟩:=hex len (Nat.le_refl _)
    subst hxl
    refine ⟨some a,cap,xs,rfl,hb2,by simpa [maxLen] using hb3,hxp,?_,.inr ⟨es.map (·.1),rest.map (·.1),rfl,by simpa using hlen,fun i d v hd hv=>?_⟩⟩
    ·show A2v (A9e w) a (xs.flatMap c)
     cases hxs:xs with
     | nil=>exact .inl rfl
     | cons x0 xr =>
      rw [← hxs]
      have hpos:0<xs.length:=by rw [hxs];simp
      have hcell:∀ i j,i<xs.length→j<sz→w.cell? (a.add (i * sz+j))=(xs.flatMap c)[i * sz+j]?:=by
       intro i j hi hj
       obtain ⟨y,v,_,h2,_,h4⟩:=hx i hi
       have:=(C7j h4).2 j (by rw [hsz];exact hj)
       rw [hsz] at this
       rw [B3u hcl v hi hj,show xs.getD i v=v by rw [List.getD_eq_getElem?_getD,h2];rfl,← this,C8r]
      have hfl:(xs.flatMap c).length=xs.length * sz:=E2 hcl xs
      have h00:=hcell 0 0 hpos h0
      obtain ⟨v0,hv0⟩:∃ v0,(xs.flatMap c)[0 * sz+0]?=some v0:=by
       rw [List.getElem?_eq_getElem (show 0 * sz+0<(xs.flatMap c).length by rw [hfl,Nat.zero_mul];exact Nat.mul_pos hpos h0)];exact ⟨_,rfl⟩
      rw [hv0] at h00
      obtain ⟨hs,cc,TT,fr,hh,_⟩:=B9e h00
      have hh2:w.heap[a.block]?=some (.cells cc TT fr):=by simpa [B9s] using hh
      refine .inr ⟨by simpa [Addr.add] using hs,cc,TT,fr,hh2,fun j v hj=>?_⟩
      have hjl:=(List.getElem?_eq_some_iff.1 hj).1
      rw [hfl] at hjl
      have e1:j / sz * sz+j % sz=j:=by rw [Nat.mul_comm];exact Nat.div_add_mod j sz
      have h1:=hcell (j / sz) (j % sz) (by rw [Nat.div_lt_iff_lt_mul h0];exact hjl) (Nat.mod_lt _ h0)
      rw [e1,hj] at h1
      obtain ⟨_,cc',TT',fr',hh',hv'⟩:=B9e h1
      have hh3:w.heap[a.block]?=some (.cells cc' TT' fr'):=by simpa [B9s] using hh'
      have:cc'=cc:=by
       rw [hh2] at hh3;simp at hh3;exact hh3.1.symm
      rw [← this];simpa [D0w] using hv'
    ·obtain ⟨y,v',h1,h2,h3,_⟩:=hx i (List.getElem?_eq_some_iff.1 hv).1
     rw [hv] at h2
     obtain rfl:v=v':=Option.some.inj h2
     rw [List.getElem?_map,h1] at hd
     obtain rfl:y.1=d:=Option.some.inj hd
     exact h3
   ·cases h
def C7n {α:Type} (c:α→List Value) (p:Hp→α→Prop) (h:Hp) (r:Slc):Prop:=∃ xs:List α,r.n=xs.length∧r.n≤r.k∧xs.length≤9223372036854775807∧(sl c r.q xs).p h∧∀ a ∈ xs,p h a
theorem D0h {T e sz:TypeId} {α:Type} {c:α→List Value} {D:{H:Type}→DataW H→α→Prop} {p:Hp→α→Prop} (hc:Cod P e α c D p) (hcl:∀ x,(c x).length=sz) (hsz:P.cellsOf e=sz) (h0:0<sz) (ht:P.underlying T=some (.slice e)) :
  Cod P T Slc C4 (fun _ _=>True) (C7n c p):=fun h=>by
 obtain ⟨q,k,xs,rfl,h1,h2,h3,h4,_⟩:=C1m hc hcl hsz h0 ht h
 exact ⟨⟨q,xs.length,k⟩,rfl,trivial,xs,rfl,h1,by omega,h4,h3⟩
theorem C6d {α:Type} {c:α→List Value} {p:Hp→α→Prop} {h:Hp}:∀ (rs:List Slc),(∀ r ∈ rs,C7n c p h r)→∃ xss:List (List α),C7 rs xss∧(G5 c rs xss).p h∧∀ xs ∈ xss,∀ a ∈ xs,p h a
 | [],_=>⟨[],.none,fun i r xs h=>by simp at h,by simp⟩
 | r::rs,hr=>by
  obtain ⟨xs,h1,h2,h3,h4,h5⟩:=hr r (List.mem_cons_self ..)
  obtain ⟨xss,g1,g2,g3⟩:=C6d rs fun r' h'=>hr r' (List.mem_cons_of_mem _ h')
  refine ⟨xs::xss,.cons ⟨h1,h2,h3⟩ g1,fun i r' xs' hr' hx=>?_,fun ys hy=>?_⟩
  ·cases i with
   | zero=>simp at hr' hx;subst hr' hx;exact h4
   | succ i=>exact g2 i r' xs' (by simpa using hr') (by simpa using hx)
  ·rcases List.mem_cons.1 hy with rfl | hy
   ·exact h5
   ·exact g3 ys hy
theorem C8m {T e sz k:Nat} {α:Type} {c:α→List Value} {D:{H:Type}→DataW H→α→Prop} {p:Hp→α→Prop} (hc:Cod P e α c D p) (hcl:∀ x,(c x).length=sz) (hsz:P.cellsOf e=sz) (ht:P.underlying T=some (.array k e)) (hT:P.cellsOf T=k * sz)
  (dec:DataW Unit→Option α) (hdec:∀ d a,D d a→dec d=some a) {tab:List α} {ds:List (DataW Unit)} (htab:ds.mapM dec=some tab)
  {enc:TypeId×Value→Unit} {w:World} {base:Nat} {sp:Nat→Bool} {held:Bool} {fuel:Nat} {cs:List Value} {ps:List MemPlace} (h:DataW.trod enc P w base sp held fuel T cs=some (.agg ds,ps)):cs=tab.flatMap c:=by
 obtain ⟨hl,n,ys,rfl,hx,hyl,hy⟩:=B1j ht h
 have hds:ds=ys.map (·.1):=by simpa using hx
 have hdl:ds.length=k:=by rw [hds];simpa using hyl
 have htl:tab.length=k:=by rw [← hdl];exact Lib.mapM_length htab
 have key:∀ (i:Nat),i<k→∃ a,tab[i]?=some a∧(cs.drop (i * sz)).take sz=c a:=by
  intro i hi
  obtain ⟨y,h1,h2⟩:=hy i hi
  rw [hsz] at h2
  obtain ⟨a,h3,h4,_⟩:=hc h2
  obtain ⟨b,h5,h6⟩:=A9h htab i y.1 (by rw [hds];simp [h1])
  rw [hdec _ _ h4] at h6
  obtain rfl:a=b:=Option.some.inj h6
  exact ⟨a,h5,h3⟩
 rw [hT,← htl] at hl
 apply List.ext_getElem?
 intro j
 by_cases hj:j<tab.length * sz
 ·have hsz0:0<sz:=by
   rcases Nat.eq_zero_or_pos sz with h0 | h0
   ·rw [h0,Nat.mul_zero] at hj;omega
   ·exact h0
  have hk:j / sz<tab.length:=by rw [Nat.div_lt_iff_lt_mul hsz0];exact hj
  have hm:j % sz<sz:=Nat.mod_lt _ hsz0
  have e1:j / sz * sz+j % sz=j:=by rw [Nat.mul_comm];exact Nat.div_add_mod j sz
  obtain ⟨a,h0,h1⟩:=key (j / sz) (by omega)
  have h2:=B3u hcl a hk hm
  rw [e1] at h2
  rw [h2,show tab.getD (j / sz) a=a by simp [List.getD_eq_getElem?_getD,h0],← h1,List.getElem?_take,if_pos hm,List.getElem?_drop,e1]
 ·rw [List.getElem?_eq_none (by omega),List.getElem?_eq_none (by rw [E2 hcl];omega)]
theorem B9c {laid:List (String×DataW Unit)} {w:World} {name:String} {g T:Nat} {ds:List (DataW Unit)} (hm:(name,.agg ds) ∈ laid) (hg:P.globalNamed name=some g) (hT:(P.globals[g]?).map (·.type)=some T)
  {e sz k:Nat} {α:Type} {c:α→List Value} {D:{H:Type}→DataW H→α→Prop} {p:Hp→α→Prop} (hc:Cod P e α c D p) (hcl:∀ x,(c x).length=sz) (hsz:P.cellsOf e=sz) (ht:P.underlying T=some (.array k e)) (hTc:P.cellsOf T=k * sz)
  (dec:DataW Unit→Option α) (hdec:∀ d a,D d a→dec d=some a) {tab:List α} (htab:ds.mapM dec=some tab) (h:laidMet P laid w):(sl c (some ⟨g,0,none⟩) tab).p (A9e w):=by
 obtain ⟨ps,h,_⟩:=h
 have:∀ (l:List (String×DataW Unit)) (ps:List MemPlace),DataW.LaidVars P w l ps→(name,.agg ds) ∈ l→∃ cs fuel q,w.var? P name=some cs∧DataW.trod (fun _=>()) P w 0 (fun _=>true) false fuel T cs.toList=some (.agg ds,q):=by
  intro l
  induction l with
  | nil=>intro ps _ hm;cases hm
  | cons y r ih =>
   intro ps h hm
   obtain ⟨n,d⟩:=y
   obtain ⟨g',t,cs,fuel,p',q,h1,h2,h3,h4,h5,_⟩:=h
   rcases List.mem_cons.1 hm with e | hm
   ·simp only [Prod.mk.injEq] at e
    obtain ⟨rfl,rfl⟩:=e
    rw [hg] at h1
    obtain rfl:g=g':=Option.some.inj h1
    rw [hT] at h2
    obtain rfl:T=t:=Option.some.inj h2
    exact ⟨cs,fuel,p',h3,h4⟩
   ·exact ih q h5 hm
 obtain ⟨cs,fuel,q,hv,htr⟩:=this laid ps h hm
 have hcs:=C8m hc hcl hsz ht hTc dec hdec htab htr
 unfold World.var? at hv
 rw [hg] at hv
 simp only [Option.bind_some] at hv
 split at hv
 ·rename_i cs' TT fr hh
  obtain rfl:cs'=cs:=Option.some.inj hv
  refine .inr ⟨rfl,cs',TT,fr,hh,fun j v hj=>?_⟩
  rw [← hcs] at hj
  simpa using hj
 ·cases hv
theorem C6w {f:Func} {s:ChangeSpec} {H:Type} {enc:TypeId×Value→H} (hl:laidOutB P=true) (hts:(f.params.toList.all fun t=>P.readableRec t&&decide (t<P.types.size))=true) (hres:f.resultTypes=#[4]) (hb:P.underlying 4=some .bool) (hv:s.vars=[])
  {W W':World} {args:Array Value} {ds gs:List (DataW H)} {before:List MemPlace} (hW:DataW.Whole enc P f.params.toList s.vars false W args.toList ds gs before) (hk:Below W.heap.size W W')
  (hfn:s.fn H ds={results:=[.lit (.bool true)],args:=ds}):s.post enc P f false true false false W args (.bool true) W':=by
 have hW0:=hW
 obtain ⟨p,q,hA,hV,rfl,hfz,hnd⟩:=hW
 rw [hv] at hV
 have hgs:gs=[]∧q=[]:=by
  cases gs with
  | nil=>exact ⟨rfl,hV⟩
  | cons g gs=>exact hV.elim
 obtain ⟨rfl,rfl⟩:=hgs
 simp only [List.append_nil] at hW0
 have hlt:∀ x ∈ p,x.block<W.heap.size:=fun x hx=>hW0.lt x hx
 have hfn':s.fn H (ds++[])={results:=[.lit (.bool true)],args:=ds}:=by simpa using hfn
 have hargs:∀ (ts:List TypeId) (vs:List Value) (ds:List (DataW H)) (ps:List MemPlace),(ts.all fun t=>P.readableRec t&&decide (t<P.types.size))=true→DataW.TrodAll enc P W 0 (fun _=>true) true ts vs ds ps→(∀ x ∈ ps,x.block<W.heap.size)→DataW.TrodAll enc P W' 0 (fun b=>decide (b<W.heap.size)) true ts vs ds ps:=by
  intro ts
  induction ts with
  | nil=>intro vs ds ps _ h _;cases vs<;>cases ds<;>exact h
  | cons t ts ih =>
   intro vs ds ps ha h hx
   cases vs with
   | nil=>cases ds<;>exact h.elim
   | cons v vs =>
    cases ds with
    | nil=>exact h.elim
    | cons d ds =>
     simp only [List.all_cons,Bool.and_eq_true,decide_eq_true_eq] at ha
     obtain ⟨p1,q1,h1,h2,rfl⟩:=h
     exact ⟨p1,q1,Below.trod hl ha.1.1 ha.1.2 h1 hk (fun x hx'=>hx x (List.mem_append_left _ hx')),ih vs ds q1 (by simpa using ha.2) h2 (fun x hx'=>hx x (List.mem_append_right _ hx')),rfl⟩
 refine ⟨ds,[],p,[],p,[],hW0,?_,?_,?_,hk.frame _,fun h=>by cases h⟩
 ·rw [hfn',hres]
  refine ⟨[],[],⟨1,?_⟩,rfl,rfl⟩
  simp [DataW.trod,hb,Value.cells,Value.resultList]
 ·rw [hfn'];exact hargs _ _ _ _ hts hA hlt
 ·rw [hfn',hv];rfl
end
end Go.Fen
set_option linter.unusedVariables false
set_option linter.unusedSimpArgs false
namespace Go.Fen
open Go Go.RowKit
def C4j (P:Program) (h:Hp) (fv:Value) (args:List Value) (r:Value):Prop :=
 ∃ (k:FuncId) (first cap:Array Value),fv=.func (.func k) first cap∧HasBody P k∧∀ (w:World) (h':Hp),h.le h'→h'.sub w→A0i [] h' w →
  Calls P k (first++args.toArray++cap) w fun e w'=>∃ _:Unit,e=.returned r∧StW (cx w h' []) [] [] w'
theorem C4j.mono {P:Program} {h h1:Hp} {fv:Value} {args:List Value} {r:Value} (hl:h.le h1) (hc:C4j P h fv args r):C4j P h1 fv args r:=by
 obtain ⟨k,first,cap,e,hb,H⟩:=hc
 exact ⟨k,first,cap,e,hb,fun w h' hle hs ho=>H w h' (Hp.le_trans hl hle) hs ho⟩
section
variable {P:Program} {n:Nat} {X:Cx} {E:Env} {L:Own} {Φ Φ' Φ0:List Pers}
theorem D7h {fn:Func} {r s t q:ResultVar} {v u x y:Value} (hf:fn.results=#[r,s,t,q]) (h:B3e P n X r E L Φ v) (k:B3e P n X s E L Φ u) (l:B3e P n X t E L Φ x) (m:B3e P n X q E L Φ y):Res P n X fn E L Φ (.tuple #[v,u,x,y]):=fun a w hs=>by
 simp [A6a,hf,h a w hs,k a w hs,l a w hs,m a w hs]
end
section
variable {P:Program} {n:Nat} {X:Cx} {K:Go.Act→World→Prop} {Q:Exit→Go.Act→World→Prop} {E:Env} {L L':Go.Fen.Own} {Φ:List Pers}
theorem C4v {ops:Array Oper} {i m:Nat} (hp:L=L') (h:JI P n X ops i m K Q E L' Φ):JI P n X ops i m K Q E L Φ:=hp▸h
end
end Go.Fen
set_option linter.unusedVariables false
set_option linter.unusedSimpArgs false
namespace Go.Fen
open Go Go.RowKit
def D0q (P:Program) (T:Nat):Option (Nat×Bool) :=
 match P.info? T,P.underlying T with
 | some i,some d=>some (i.size,TypeDesc.row d)
 | _,_=>none
theorem C5k {P:Program} {T sz:Nat} {agg:Bool} (h:D0q P T=some (sz,agg)):Ty P T sz agg:=⟨by
 unfold D0q at h
 unfold TyB
 split at h
 ·rename_i i d hi hd
  simp only [Option.some.injEq,Prod.mk.injEq] at h
  obtain ⟨rfl,rfl⟩:=h
  simp [hi,hd]
 ·cases h⟩
def ldV (sz:Nat) (agg:Bool) (cs:List Value) (off:Nat):Option Value :=
 match agg with
 | true=>match Nat.beq ((cs.drop off).take sz).length sz with
  | true=>some (.agg ((cs.drop off).take sz).toArray)
  | false=>none
 | false=>match Nat.beq sz 1 with
  | true=>cs[off]?
  | false=>none
def D5a (v:Value) (sz off:Nat) (cs:List Value):Bool:=Nat.beq v.cells.toList.length sz&&v.cells.toList.all (·.oneCell')&&Nat.ble (off+sz) cs.length
def A6y (P:Program) (E:Env) (L:Own) (hs bs:List Nat):Op→Option (Value×Own×List Nat×List Nat×List (Nat×Nat))
 | .load T x=>match ev E x,hs with
  | some (.pointer (some ⟨b,off,none⟩)),j::hs'=>match L[j]?,D0q P T with
   | some (b',.cells cs TT (0,0)),some (sz,agg)=>match ldV sz agg cs.toList off with
    | some v=>some (v,L,hs',bs,[(b,b')])
    | none=>none
   | _,_=>none
  | _,_=>none
 | .store T x y=>match ev E x,ev E y,hs with
  | some (.pointer (some ⟨b,off,none⟩)),some v,j::hs'=>match L[j]?,D0q P T with
   | some (b',.cells cs TT (0,0)),some (sz,_)=>match D5a v sz off cs.toList with
    | true=>some (undef,L.set j (bx b' (X3 cs.toList v.cells.toList off) TT),hs',bs,[(b,b')])
    | false=>none
   | _,_=>none
  | _,_,_=>none
 | .box T x=>match ev E x,bs with
  | some v,b::bs'=>some (.pointer (some ⟨b,0,none⟩),bx b v.cells.toList T::L,hs,bs',[])
  | _,_=>none
 | .alloc T=>match (P.info? T).bind (·.zero),bs with
  | some z,b::bs'=>some (.pointer (some ⟨b,0,none⟩),bx b z.cells.toList T::L,hs,bs',[])
  | _,_=>none
 | .build T ps=>match A7z E ps.toList with
  | some vs=>match C4e P T vs with
   | some cs=>some (.agg cs,L,hs,bs,[])
   | none=>none
  | none=>none
 | op=>match B0g P E op with
  | some v=>some (v,L,hs,bs,[])
  | none=>none
def exN (P:Program) (n:Nat) (ops:Array Oper):Nat→Nat→List Nat→List Nat→Env→Own→List (Nat×Nat)→Option (Env×Own×List Nat×List (Nat×Nat))
 | 0,_,_,bs,E,L,ps=>some (E,L,bs,ps)
 | k+1,i,hs,bs,E,L,ps=>match ops[i]? with
  | none=>none
  | some o=>match A6h ops o E,X5 n o.dst with
   | some false,true=>exN P n ops k (i+1) hs bs (Env.put E o.dst undef) L ps
   | some true,true=>match A6y P E L hs bs o.op with
    | some (v,L',hs',bs',pr)=>exN P n ops k (i+1) hs' bs' (Env.put E o.dst v) L' (pr++ps)
    | none=>none
   | _,_=>none
section
variable {P:Program} {n:Nat} {X:Cx} {K:Act→World→Prop} {Q:Exit→Act→World→Prop} {E E':Env} {L L':Own} {Φ Φ':List Pers}
def Op.turns:Op→Bool
 | .box _ _=>true
 | .alloc _=>true
 | .store _ _ _=>true
 | _=>false
theorem C0p {ops:Array Oper}:∀ (k i:Nat) {hs bs:List Nat} {E R:Env} {L L2:Own} {ps qs:List (Nat×Nat)} {b2:List Nat},exN P n ops k i hs bs E L ps=some (R,L2,b2,qs)→∀ q ∈ ps,q ∈ qs
 | 0,i,hs,bs,E,R,L,L2,ps,qs,b2,h,q,hq=>by
  simp only [exN,Option.some.injEq,Prod.mk.injEq] at h
  rw [← h.2.2.2];exact hq
 | k+1,i,hs,bs,E,R,L,L2,ps,qs,b2,h,q,hq=>by
  unfold exN at h
  split at h
  ·cases h
  ·split at h
   ·exact C0p k (i+1) h q hq
   ·split at h
    ·exact C0p k (i+1) h q (List.mem_append_right _ hq)
    ·cases h
   ·cases h
theorem B9m {o:Oper} {hs bs hs' bs':List Nat} {v:Value} {pr:List (Nat×Nat)} (ht:Op.turns o.op=false) (h:A6y P E L hs bs o.op=some (v,L',hs',bs',pr)) (hp:∀ q ∈ pr,q.1=q.2) :
  bs'=bs∧L'=L∧(∀ b2,A6y P E L hs b2 o.op=some (v,L',hs',b2,pr))∧I9 P X o E L Φ v:=by
 cases ho:o.op with
 | box T x=>rw [ho] at ht;cases ht
 | alloc T=>rw [ho] at ht;cases ht
 | store T x y=>rw [ho] at ht;cases ht
 | load T x =>
  rw [ho] at h
  simp only [A6y] at h
  split at h
  ·rename_i b off j hs2 hx
   split at h
   ·rename_i b' cs TT sz agg hj hT
    split at h
    ·rename_i u hu
     simp only [Option.some.injEq,Prod.mk.injEq] at h
     obtain ⟨rfl,rfl,rfl,rfl,rfl⟩:=h
     obtain rfl:b=b':=hp (b,b') (by simp)
     refine ⟨rfl,rfl,fun b2=>?_,?_⟩
     ·simp only [A6y,hx,hj,hT,hu]
     ·have hTy:=C5k hT
      have hL:L[j]?=some (bx b cs.toList TT):=by rw [hj]
      unfold ldV at hu
      cases agg with
      | true =>
       simp only at hu
       split at hu
       ·rename_i hb
        obtain rfl:=Option.some.inj hu
        exact Q4 hTy ho hx j hL rfl (Nat.eq_of_beq_eq_true hb)
       ·cases hu
      | false =>
       simp only at hu
       split at hu
       ·rename_i hb
        obtain rfl:=Nat.eq_of_beq_eq_true hb
        exact D4 hTy ho hx j hL hu
       ·cases hu
    ·cases h
   ·cases h
  ·cases h
 | build T ps =>
  rw [ho] at h
  simp only [A6y] at h
  split at h
  ·rename_i vs hvs
   split at h
   ·rename_i cs hcs
    simp only [Option.some.injEq,Prod.mk.injEq] at h
    obtain ⟨rfl,rfl,rfl,rfl,rfl⟩:=h
    refine ⟨rfl,rfl,fun b2=>by simp only [A6y,hvs,hcs],?_⟩
    have:=A7n (X:=X) (L:=L) (Φ:=Φ) (cs:=cs.toList) ho hvs (by simpa using hcs)
    simpa using this
   ·cases h
  ·cases h
 | _ =>
  all_goals
   rw [ho] at h
   simp only [A6y] at h
   split at h
   ·rename_i u hu
    simp only [Option.some.injEq,Prod.mk.injEq] at h
    obtain ⟨rfl,rfl,rfl,rfl,rfl⟩:=h
    refine ⟨rfl,rfl,fun b2=>by simp only [A6y,hu],I9.pure (by rw [ho];exact hu)⟩
   ·cases h
theorem C5f {o:Oper} {T:Nat} {x y:Operand} {hs bs hs' bs':List Nat} {v:Value} {pr:List (Nat×Nat)} (ho:o.op=.store T x y) (h:A6y P E L hs bs o.op=some (v,L',hs',bs',pr)) (hp:∀ q ∈ pr,q.1=q.2) :
  bs'=bs∧(∀ b2,A6y P E L hs b2 o.op=some (v,L',hs',b2,pr))∧Tri P n X o E L Φ Unit (fun _=>v) (fun _=>L') (fun _=>Φ):=by
 rw [ho] at h
 simp only [A6y] at h
 split at h
 ·rename_i b off u j hs2 hx hy
  split at h
  ·rename_i b' cs TT sz agg hj hT
   split at h
   ·rename_i hk
    simp only [Option.some.injEq,Prod.mk.injEq] at h
    obtain ⟨rfl,rfl,rfl,rfl,rfl⟩:=h
    obtain rfl:b=b':=hp (b,b') (by simp)
    refine ⟨rfl,fun b2=>?_,?_⟩
    ·rw [ho];simp only [A6y,hx,hy,hj,hT,hk]
    ·have hL:L[j]?=some (bx b cs.toList TT):=by rw [hj]
     unfold D5a at hk
     simp only [Bool.and_eq_true] at hk
     exact N3 (C5k hT) ho hx hy j hL (by simp) (Nat.eq_of_beq_eq_true hk.1.1) hk.1.2 rfl hk.2
   ·cases h
  ·cases h
 ·cases h
theorem A2w {ops:Array Oper} {m:Nat}:∀ (k i:Nat) (hs:List Nat) (c:Nat) {E:Env} {L:Own} {ps:List (Nat×Nat)},
  (∀ bs:List Nat,bs.length=c→∃ R L2 qs,exN P n ops k i hs bs E L ps=some (R,L2,[],qs)∧(∀ q ∈ qs,q.1=q.2)∧JI P n X ops (i+k) m K Q R L2 Φ)→JI P n X ops i (k+m) K Q E L Φ
 | 0,i,hs,c,E,L,ps,H=>by
  obtain ⟨R,L2,qs,h,hq,hk⟩:=H (List.replicate c 0) (by simp)
  simp only [exN,Option.some.injEq,Prod.mk.injEq] at h
  obtain ⟨rfl,rfl,_,_⟩:=h
  rw [Nat.zero_add];exact hk
 | k+1,i,hs,c,E,L,ps,H=>by
  obtain ⟨R,L2,qs,h,hq,hk⟩:=H (List.replicate c 0) (by simp)
  have h0:=h
  unfold exN at h
  rw [Nat.add_right_comm]
  split at h
  ·cases h
  ·rename_i o ho
   have step:∀ bs,exN P n ops (k+1) i hs bs E L ps=match A6h ops o E,X5 n o.dst with
     | some false,true=>exN P n ops k (i+1) hs bs (Env.put E o.dst undef) L ps
     | some true,true=>match A6y P E L hs bs o.op with
      | some (v,L',hs',bs',pr)=>exN P n ops k (i+1) hs' bs' (Env.put E o.dst v) L' (pr++ps)
      | none=>none
     | _,_=>none:=fun bs=>by rw [exN];simp only [ho]
   split at h
   ·rename_i hr hd
    refine C5l ho hr hd (A2w (ps:=ps) k (i+1) hs c fun bs hb=>?_)
    obtain ⟨R,L2,qs,h,hq,hk⟩:=H bs hb
    rw [step,hr,hd] at h
    exact ⟨R,L2,qs,h,hq,by rw [Nat.add_assoc,Nat.add_comm 1 k];exact hk⟩
   ·rename_i hr hd
    split at h
    ·rename_i v L' hs' bs' pr hx
     have hpr:∀ q ∈ pr,q.1=q.2:=fun q hqq=>hq q (C0p k (i+1) h q (List.mem_append_left _ hqq))
     have next:∀ bs b2,A6y P E L hs bs o.op=some (v,L',hs',b2,pr)→exN P n ops (k+1) i hs bs E L ps=exN P n ops k (i+1) hs' b2 (Env.put E o.dst v) L' (pr++ps):=fun bs b2 hb=>by
      rw [step,hr,hd];simp only [hb]
     cases ht:Op.turns o.op with
     | false =>
      obtain ⟨_,rfl,hall,hdet⟩:=B9m (X:=X) (Φ:=Φ) ht hx hpr
      refine C0m ho hr hd hdet.det (A2w (ps:=pr++ps) k (i+1) hs' c fun bs hb=>?_)
      obtain ⟨R,L2,qs,h,hq,hk⟩:=H bs hb
      rw [next bs bs (hall bs)] at h
      exact ⟨R,L2,qs,h,hq,by rw [Nat.add_assoc,Nat.add_comm 1 k];exact hk⟩
     | true =>
      cases hop:o.op with
      | store T x y =>
       obtain ⟨_,hall,htri⟩:=C5f (n:=n) (X:=X) (Φ:=Φ) hop hx hpr
       refine B6d ho hr hd htri fun _=>(A2w (ps:=pr++ps) k (i+1) hs' c fun bs hb=>?_)
       obtain ⟨R,L2,qs,h,hq,hk⟩:=H bs hb
       rw [next bs bs (hall bs)] at h
       exact ⟨R,L2,qs,h,hq,by rw [Nat.add_assoc,Nat.add_comm 1 k];exact hk⟩
      | box T x =>
       have hx':=hx
       rw [hop] at hx'
       simp only [A6y] at hx'
       split at hx'
       ·rename_i u b0 bs0 hu hbs
        obtain ⟨c',rfl⟩:∃ c',c=c'+1:=by
         cases c with
         | zero=>cases hbs
         | succ c=>exact ⟨c,rfl⟩
        refine B6d ho hr hd (C0s (cs:=u.cells.toList) hop hu (by simp)) fun b=>(A2w (ps:=ps) k (i+1) hs c' fun bs hb=>?_)
        ·obtain ⟨R,L2,qs,h,hq,hk⟩:=H (b::bs) (by simp [hb])
         have e:A6y P E L hs (b::bs) o.op=some (.pointer (some ⟨b,0,none⟩),bx b u.cells.toList T::L,hs,bs,[]):=by rw [hop];simp only [A6y,hu]
         rw [step,hr,hd] at h
         simp only [e] at h
         exact ⟨R,L2,qs,h,hq,by rw [Nat.add_assoc,Nat.add_comm 1 k];exact hk⟩
       ·cases hx'
      | alloc T =>
       have hx':=hx
       rw [hop] at hx'
       simp only [A6y] at hx'
       split at hx'
       ·rename_i z b0 bs0 hz hbs
        obtain ⟨c',rfl⟩:∃ c',c=c'+1:=by
         cases c with
         | zero=>cases hbs
         | succ c=>exact ⟨c,rfl⟩
        refine B6d ho hr hd (B0o (cs:=z.cells.toList) ⟨by rw [hz];simp⟩ hop) fun b=>(A2w (ps:=ps) k (i+1) hs c' fun bs hb=>?_)
        ·obtain ⟨R,L2,qs,h,hq,hk⟩:=H (b::bs) (by simp [hb])
         have e:A6y P E L hs (b::bs) o.op=some (.pointer (some ⟨b,0,none⟩),bx b z.cells.toList T::L,hs,bs,[]):=by rw [hop];simp only [A6y,hz]
         rw [step,hr,hd] at h
         simp only [e] at h
         exact ⟨R,L2,qs,h,hq,by rw [Nat.add_assoc,Nat.add_comm 1 k];exact hk⟩
       ·cases hx'
      | _=>all_goals (rw [hop] at ht;cases ht)
    ·cases h
   ·cases h
theorem C1l {ops:Array Oper} {new:Env} {t:Nat} {v:Value} (E0:Env) (h0:E0.lookup t=some v) (hn:new.lookup t=none):∀ (k i:Nat) {hs bs:List Nat} {E R:Env} {L L2:Own} {ps qs:List (Nat×Nat)} {b2:List Nat},
  B5t ops E0 new k i=true→exN P n ops k i hs bs E L ps=some (R,L2,b2,qs)→E.lookup t=some v→R.lookup t=some v
 | 0,i,hs,bs,E,R,L,L2,ps,qs,b2,_,h,he=>by
  simp only [exN,Option.some.injEq,Prod.mk.injEq] at h
  rw [← h.1];exact he
 | k+1,i,hs,bs,E,R,L,L2,ps,qs,b2,hk,h,he=>by
  unfold exN at h
  unfold B5t at hk
  simp only [Bool.and_eq_true] at hk
  split at h
  ·cases h
  ·rename_i o ho
   have hd:o.dst≠some t:=by
    intro hd
    have:=hk.1
    simp only [ho,Option.bind_some,hd,A8n,hn,h0] at this
    simp at this
   have put:∀ u,(Env.put E o.dst u).lookup t=some v:=by
    intro u
    cases hdst:o.dst with
    | none=>exact he
    | some d =>
     have:(t == d)=false:=by simp;intro e;exact hd (by rw [hdst,e])
     simp only [Env.put,List.lookup,this];exact he
   split at h
   ·exact C1l E0 h0 hn k (i+1) hk.2 h (put _)
   ·split at h
    ·exact C1l E0 h0 hn k (i+1) hk.2 h (put _)
    ·cases h
   ·cases h
def exL (P:Program) (n:Nat) (ops:Array Oper) (k i:Nat) (hs bs:List Nat) (E:Env) (L:Own) (new:Env):Option (Env×Own×List Nat) :=
 match B5t ops E new k i with
 | true=>match exN P n ops k i hs bs E L [] with
  | some (R,L2,[],ps)=>match B1s R new with
   | some r=>some (r,L2,ps.map Prod.fst)
   | none=>none
  | _=>none
 | false=>none
def exS (P:Program) (n:Nat) (ops:Array Oper) (k i:Nat) (hs bs:List Nat) (E:Env) (L:Own):List Nat :=
 match exN P n ops k i hs bs E L [] with
 | some (_,_,_,ps)=>ps.map Prod.snd
 | none=>[]
theorem C3f:∀ (ps:List (Nat×Nat)),ps.map Prod.fst=ps.map Prod.snd→∀ q ∈ ps,q.1=q.2
 | [],_,q,hq=>by cases hq
 | p::ps,h,q,hq=>by
  simp only [List.map_cons,List.cons.injEq] at h
  rcases List.mem_cons.1 hq with rfl | hq
  ·exact h.1
  ·exact C3f ps h.2 q hq
theorem A9j {ops:Array Oper} {k i:Nat} {hs bs:List Nat} {new:Env} (h:exL P n ops k i hs bs E L new=some (new,L',exS P n ops k i hs bs E L)) :
  ∃ R qs,exN P n ops k i hs bs E L []=some (R,L',[],qs)∧(∀ q ∈ qs,q.1=q.2)∧∀ a,Has a R→Has a (new++E):=by
 unfold exL at h
 split at h
 ·rename_i hok
  split at h
  ·rename_i R L2 ps hR
   split at h
   ·rename_i r hr
    simp only [Option.some.injEq,Prod.mk.injEq] at h
    obtain ⟨rfl,rfl,h3⟩:=h
    have hS:exS P n ops k i hs bs E L=ps.map Prod.snd:=by unfold exS;rw [hR]
    rw [hS] at h3
    refine ⟨R,ps,hR,C3f ps h3,fun a ha t v e=>?_⟩
    rw [A6v] at e
    split at e
    ·rename_i u hu
     exact (ha.weaken (I2 (B0m hr))) t v (by rw [hu];exact e)
    ·rename_i hu
     exact ha t v (C1l E e hu k i hok hR e)
   ·cases h
  ·cases h
 ·cases h
theorem C0k {ops:Array Oper} {i m:Nat} (hE:∀ a,Has a E→Has a E') (h:JI P n X ops i m K Q E' L Φ):JI P n X ops i m K Q E L Φ:=fun a w hs=>h a w ⟨hs.size,hs.defers,hE a hs.has,hs.world⟩
theorem zrg {ops:Array Oper} {i:Nat} (k m:Nat) (hs:List Nat) (new:Env) (L':Own) (g:JI P n X ops (i+k) m K Q (new++E) L' Φ) (h:exL P n ops k i hs [] E L new=some (new,L',exS P n ops k i hs [] E L):=by kernel_rfl):JI P n X ops i (k+m) K Q E L Φ :=
 A2w k i hs 0 fun bs hb=>by
  obtain rfl:=List.length_eq_zero_iff.1 hb
  obtain ⟨R,qs,h1,h2,h3⟩:=A9j h
  exact ⟨R,L',qs,h1,h2,C0k h3 g⟩
theorem I7 {ops:Array Oper} {i:Nat} (k m:Nat) (hs:List Nat) (new:Nat→Env) (L':Nat→Own) (g:∀ b,JI P n X ops (i+k) m K Q (new b++E) (L' b) Φ) (h:∀ b,exL P n ops k i hs [b] E L (new b)=some (new b,L' b,exS P n ops k i hs [b] E L):=by intros;kernel_rfl):JI P n X ops i (k+m) K Q E L Φ :=
 A2w k i hs 1 fun bs hb=>by
  match bs,hb with
  | [b],_ =>
   obtain ⟨R,qs,h1,h2,h3⟩:=A9j (h b)
   exact ⟨R,L' b,qs,h1,h2,C0k h3 (g b)⟩
theorem A8y {ops:Array Oper} {i:Nat} (k m:Nat) (hs:List Nat) (new:Nat→Nat→Env) (L':Nat→Nat→Own) (g:∀ b c,JI P n X ops (i+k) m K Q (new b c++E) (L' b c) Φ) (h:∀ b c,exL P n ops k i hs [b,c] E L (new b c)=some (new b c,L' b c,exS P n ops k i hs [b,c] E L):=by intros;kernel_rfl):JI P n X ops i (k+m) K Q E L Φ :=
 A2w k i hs 2 fun bs hb=>by
  match bs,hb with
  | [b,c],_ =>
   obtain ⟨R,qs,h1,h2,h3⟩:=A9j (h b c)
   exact ⟨R,L' b c,qs,h1,h2,C0k h3 (g b c)⟩
theorem D4d {ops:Array Oper} {i:Nat} (k m:Nat) (hs:List Nat) (new:Nat→Nat→Nat→Env) (L':Nat→Nat→Nat→Own) (g:∀ b c d,JI P n X ops (i+k) m K Q (new b c d++E) (L' b c d) Φ) (h:∀ b c d,exL P n ops k i hs [b,c,d] E L (new b c d)=some (new b c d,L' b c d,exS P n ops k i hs [b,c,d] E L):=by intros;kernel_rfl):JI P n X ops i (k+m) K Q E L Φ :=
 A2w k i hs 3 fun bs hb=>by
  match bs,hb with
  | [b,c,d],_ =>
   obtain ⟨R,qs,h1,h2,h3⟩:=A9j (h b c d)
   exact ⟨R,L' b c d,qs,h1,h2,C0k h3 (g b c d)⟩
theorem ip' {ops:Array Oper} {i:Nat} (k m:Nat) (new:Env) (g:JI P n X ops (i+k) m K Q (new++E) L Φ) (h:A3i P n ops k i E new=some new:=by kernel_rfl):JI P n X ops i (k+m) K Q E L Φ:=ip k m new h g
theorem dp' {ops:Array Oper} {i:Nat} (k m:Nat) (new:Env) (g:JD P n X ops (i+k) m K (new++E) L Φ) (h:A3i P n ops k i E new=some new:=by kernel_rfl):JD P n X ops i (k+m) K E L Φ:=dp k m new h g
def C0j (ops:Array Oper):Nat→Nat→Bool
 | 0,_=>true
 | k+1,i=>(match ops[i]? with
  | some o=>!Op.turns o.op
  | none=>false)&&C0j ops k (i+1)
theorem B4h {ops:Array Oper} {m:Nat}:∀ (k i:Nat) (hs:List Nat) {E R:Env} {L2:Own} {ps qs:List (Nat×Nat)},C0j ops k i=true→exN P n ops k i hs [] E L ps=some (R,L2,[],qs)→(∀ q ∈ qs,q.1=q.2) →
  JD P n X ops (i+k) m K R L Φ→JD P n X ops i (k+m) K E L Φ
 | 0,i,hs,E,R,L2,ps,qs,_,h,hq,hk=>by
  simp only [exN,Option.some.injEq,Prod.mk.injEq] at h
  obtain ⟨rfl,_,_,_⟩:=h
  rw [Nat.zero_add];exact hk
 | k+1,i,hs,E,R,L2,ps,qs,hqt,h,hq,hk=>by
  unfold exN at h
  unfold C0j at hqt
  simp only [Bool.and_eq_true] at hqt
  rw [Nat.add_right_comm]
  have hk':JD P n X ops (i+1+k) m K R L Φ:=by rw [Nat.add_assoc,Nat.add_comm 1 k];exact hk
  split at h
  ·cases h
  ·rename_i o ho
   have ht:Op.turns o.op=false:=by have:=hqt.1;rw [ho] at this;simpa using this
   split at h
   ·rename_i hr hd
    exact C6m ho hr hd (B4h k (i+1) hs hqt.2 h hq hk')
   ·rename_i hr hd
    split at h
    ·rename_i v L' hs' bs' pr hx
     have hpr:∀ q ∈ pr,q.1=q.2:=fun q hqq=>hq q (C0p k (i+1) h q (List.mem_append_left _ hqq))
     obtain ⟨hb,hL,_,hdet⟩:=B9m (X:=X) (Φ:=Φ) ht hx hpr
     rw [hb,hL] at h
     exact B9z ho hr hd hdet.det (B4h k (i+1) hs' hqt.2 h hq hk')
    ·cases h
   ·cases h
theorem D2n {ops:Array Oper} {i m:Nat} (hE:∀ a,Has a E→Has a E') (h:JD P n X ops i m K E' L Φ):JD P n X ops i m K E L Φ:=fun a h1 h2 h3=>h a h1 h2 (hE a h3)
theorem zdg {ops:Array Oper} {i:Nat} (k m:Nat) (hs:List Nat) (new:Env) (g:JD P n X ops (i+k) m K (new++E) L Φ) (h:exL P n ops k i hs [] E L new=some (new,L,exS P n ops k i hs [] E L):=by kernel_rfl) (hq:C0j ops k i=true:=by kernel_rfl):JD P n X ops i (k+m) K E L Φ:=by
 obtain ⟨R,qs,h1,h2,h3⟩:=A9j h
 exact B4h k i hs hq h1 h2 (D2n h3 g)
theorem znl {ops:Array Oper} {i m:Nat} (L':Own) (g:JI P n X ops i m K Q E L' Φ) (h:L=L':=by first|rfl|simp only [List.cons_append,List.append_assoc,List.nil_append,List.append_nil]):JI P n X ops i m K Q E L Φ:=h▸g
theorem zjd {ρ:Type} {c:Operand} {x y:Code} {p:Prop} [Decidable p] {A B R:ρ} (hc:ev E c=some (.bool (decide p))) (hR:(bif decide p then A else B)=R) (h1:A=R→decide p=true→p→J P n X x Q E L Φ) (h2:B=R→decide p=false→¬ p→J P n X y Q E L Φ):J P n X (.cond c x y) Q E L Φ :=
 S2 hc (fun e=>h1 (bt hR e) e (of_decide_eq_true e)) (fun e=>h2 (bf hR e) e (of_decide_eq_false e))
theorem zjn {ρ:Type} {c:Operand} {x y:Code} {p:Prop} [Decidable p] {A B R:ρ} (hc:ev E c=some (.bool (!decide p))) (hR:(bif (!decide p) then A else B)=R) (h1:A=R→(!decide p)=true→¬ p→J P n X x Q E L Φ) (h2:B=R→(!decide p)=false→¬ ¬ p→J P n X y Q E L Φ):J P n X (.cond c x y) Q E L Φ :=
 S2 hc (fun e=>h1 (bt hR e) e (by simpa using e)) (fun e=>h2 (bf hR e) e (not_not_intro (by simpa using e)))
theorem zjb {ρ:Type} {c:Operand} {x y:Code} {b:Bool} {A B R:ρ} (hc:ev E c=some (.bool b)) (hR:(bif b then A else B)=R) (h1:A=R→b=true→J P n X x Q E L Φ) (h2:B=R→b=false→J P n X y Q E L Φ):J P n X (.cond c x y) Q E L Φ :=
 S2 hc (fun e=>h1 (bt hR e) e) (fun e=>h2 (bf hR e) e)
theorem D2a (hD:X.D=[]):(X.D.map Prod.fst).Nodup∧∀ d ∈ X.D,d.2=.deferred (some []):=by rw [hD];exact ⟨List.nodup_nil,fun d hd=>by cases hd⟩
theorem zer {fn:Func} {α:Type} {val:α→Value} {L1:α→Own} {Φ1:α→List Pers} {v:Value} (h0:X.rho=none) (hD:X.D=[]) (hr:Res P n X fn E L Φ v) (x:α) (hL:List.Sublist (L1 x) L) (hΦ:A2 Φ (Φ1 x)) (hv:val x=v:=by rfl):JQ n X (C2f P X fn α val L1 Φ1 .ret) E L Φ :=
 B2u rfl ⟨h0,hD⟩ (D2a hD) hr x hv hL hΦ
theorem zen {fn:Func} {α:Type} {val:α→Value} {L1:α→Own} {Φ1:α→List Pers} {v:Value} (h0:X.rho=none) (hD:X.D=[]) (hr:Res P n X fn E L Φ v) (x:α) (hL:List.Sublist (L1 x) L) (hΦ:A2 Φ (Φ1 x)) (hv:val x=v:=by rfl):JQ n X (C2f P X fn α val L1 Φ1 .normal) E L Φ :=
 C2u rfl ⟨h0,hD⟩ (D2a hD) hr x hv hL hΦ
theorem D5 {fn:Func} {t:Nat} {val:Unit→Value} {v:Value} (h0:X.rho=none) (hD:X.D=[]) (hf:fn.results=#[.tmp t]:=by rfl) (h:E.lookup t=some v:=by rfl) (hv:val ()=v:=by rfl):JQ n X (C2f P X fn Unit val (fun _=>[]) (fun _=>[]) .ret) E L Φ :=
 zer h0 hD (P3 hf (B1 h)) () (List.nil_sublist _) A2.nil hv
theorem A7m {fn:Func} {t s:Nat} {val:Unit→Value} {v u:Value} (h0:X.rho=none) (hD:X.D=[]) (hf:fn.results=#[.tmp t,.tmp s]:=by rfl) (h:E.lookup t=some v:=by rfl) (k:E.lookup s=some u:=by rfl) (hv:val ()=.tuple #[v,u]:=by rfl):JQ n X (C2f P X fn Unit val (fun _=>[]) (fun _=>[]) .ret) E L Φ :=
 zer h0 hD (V5 hf (B1 h) (B1 k)) () (List.nil_sublist _) A2.nil hv
theorem zai {R:Env} (c t p:Nat) {v:Value} {g b:Bool} (hg:g=b) (hR:R.drop c=E:=by rfl) (hf:B4n E t p (R.take c)=true:=by rfl) (ht:E.lookup t=some (.bool g):=by rfl) (htR:R.lookup t=some (.bool b):=by rfl) (hp:R.lookup p=some v:=by rfl) {ops:Array Oper} {i:Nat} {Q':Exit→Act→World→Prop}:JI P n X ops i 0 (fun a w=>St n X ((p,v)::E) L Φ a w) Q' R L Φ :=
 A1 (H1 c t p hg A2.refl (List.Sublist.refl _) hR hf ht htR hp)
theorem zad {R:Env} (c t p:Nat) {v:Value} {g b:Bool} (hg:g=b) (hR:R.drop c=E:=by rfl) (hf:B4n E t p (R.take c)=true:=by rfl) (ht:E.lookup t=some (.bool g):=by rfl) (htR:R.lookup t=some (.bool b):=by rfl) (hp:R.lookup p=some v:=by rfl) {ops:Array Oper} {i:Nat}:JD P n X ops i 0 (fun a _=>a.tmps.size=n∧a.defers=X.marks∧Has a ((p,v)::E)) R L Φ :=
 A9r (D7a c t p hg hR hf ht htR hp)
theorem zca {ops:Array Oper} {i m:Nat} {o:Oper} {c:Call} {fv:Operand} {k:FuncId} {first cap:Array Value} {vs args:List Value} {Φ0:List Pers} {v:Value} (hcon:I6 P k args Φ0 v) (hΦ:A2 Φ Φ0)
  (h:JI P n X ops (i+1) m K Q (Env.put E o.dst v) L Φ) (hat:B4j n ops i E=some o:=by rfl) (ho:o.op=.call c:=by rfl) (hc:c.callee=.value fv:=by rfl) (hf:ev E fv=some (.func (.func k) first cap):=by rfl) (hargs:c.args.toList.mapM (ev E)=some vs:=by rfl) (ha:(first++vs.toArray++cap).toList=args:=by rfl):JI P n X ops i (m+1) K Q E L Φ :=
 ixc hat (B3h hcon ho hc hf hargs ha hΦ) h
theorem zcd {ops:Array Oper} {i m:Nat} {o:Oper} {c:Call} {fv:Operand} {k:FuncId} {first cap:Array Value} {vs args:List Value} {Φ0:List Pers} {v:Value} (hcon:I6 P k args Φ0 v) (hΦ:A2 Φ Φ0)
  (h:JD P n X ops (i+1) m K (Env.put E o.dst v) L Φ) (hat:B4j n ops i E=some o:=by rfl) (ho:o.op=.call c:=by rfl) (hc:c.callee=.value fv:=by rfl) (hf:ev E fv=some (.func (.func k) first cap):=by rfl) (hargs:c.args.toList.mapM (ev E)=some vs:=by rfl) (ha:(first++vs.toArray++cap).toList=args:=by rfl):JD P n X ops i (m+1) K E L Φ :=
 ddc hat (B3h hcon ho hc hf hargs ha hΦ) h
theorem zrl {ops:Array Oper} {i:Nat} (k m:Nat) (hs:List Nat) (new:Env) (g:JI P n X ops (i+k) m K Q (new++E) L Φ) (h:exL P n ops k i hs [] E L new=some (new,L,exS P n ops k i hs [] E L):=by kernel_rfl):JI P n X ops i (k+m) K Q E L Φ:=zrg k m hs new L g h
theorem zcm {ops:Array Oper} {i m:Nat} {o:Oper} {c:Call} {fv:Operand} {k:FuncId} {first cap:Array Value} {vs args:List Value} {Φ0:List Pers} {α:Type} {val:α→Value} {Φ1:α→List Pers}
  (hcon:Con P k args [] Φ0 α val (fun _=>[]) Φ1) (hΦ:A2 Φ Φ0) (h:∀ x,JI P n X ops (i+1) m K Q (Env.put E o.dst (val x)) L (Φ1 x++Φ)) (hat:B4j n ops i E=some o:=by rfl) (ho:o.op=.call c:=by rfl) (hc:c.callee=.value fv:=by rfl)
  (hf:ev E fv=some (.func (.func k) first cap):=by rfl) (hargs:c.args.toList.mapM (ev E)=some vs:=by rfl) (ha:(first++vs.toArray++cap).toList=args:=by rfl):JI P n X ops i (m+1) K Q E L Φ :=
 it hat (H2 (L2:=L) hcon ho hc hf hargs ha hΦ (List.Perm.refl _) (fun _=>L) (fun _=>rfl)) h
theorem zia {ops:Array Oper} {i:Nat} (k m t p:Nat) {g:Bool} (x:Bool) (h1:g=true→JI P n X ops i k (fun a w=>St n X ((p,.bool x)::E) L Φ a w) Q ((t,.bool true)::E) L Φ) (h:JI P n X ops (i+k) m K Q ((p,.bool (g&&x))::E) L Φ)
  (ht:E.lookup t=some (.bool g):=by rfl) (hf:A3i P n ops k i ((t,.bool false)::E) [(p,.bool false)]=some [(p,.bool false)]:=by kernel_rfl):JI P n X ops i (k+m) K Q E L Φ:=D4p k m t p x ht hf h1 h
theorem zio {ops:Array Oper} {i:Nat} (k m t p:Nat) {g:Bool} (x:Bool) (h1:g=false→JI P n X ops i k (fun a w=>St n X ((p,.bool x)::E) L Φ a w) Q ((t,.bool false)::E) L Φ) (h:JI P n X ops (i+k) m K Q ((p,.bool (g||x))::E) L Φ)
  (ht:E.lookup t=some (.bool g):=by rfl) (hf:A3i P n ops k i ((t,.bool true)::E) [(p,.bool true)]=some [(p,.bool true)]:=by kernel_rfl):JI P n X ops i (k+m) K Q E L Φ:=ior k m t p x ht hf h1 h
theorem zda {ops:Array Oper} {i:Nat} (k m t p:Nat) {g:Bool} (x:Bool) (h1:g=true→JD P n X ops i k (fun a _=>a.tmps.size=n∧a.defers=X.marks∧Has a ((p,.bool x)::E)) ((t,.bool true)::E) L Φ) (h:JD P n X ops (i+k) m K ((p,.bool (g&&x))::E) L Φ)
  (ht:E.lookup t=some (.bool g):=by rfl) (hf:A3i P n ops k i ((t,.bool false)::E) [(p,.bool false)]=some [(p,.bool false)]:=by kernel_rfl):JD P n X ops i (k+m) K E L Φ:=D4w k m t p x ht hf h1 h
theorem zdO {ops:Array Oper} {i:Nat} (k m t p:Nat) {g:Bool} (x:Bool) (h1:g=false→JD P n X ops i k (fun a _=>a.tmps.size=n∧a.defers=X.marks∧Has a ((p,.bool x)::E)) ((t,.bool false)::E) L Φ) (h:JD P n X ops (i+k) m K ((p,.bool (g||x))::E) L Φ)
  (ht:E.lookup t=some (.bool g):=by rfl) (hf:A3i P n ops k i ((t,.bool true)::E) [(p,.bool true)]=some [(p,.bool true)]:=by kernel_rfl):JD P n X ops i (k+m) K E L Φ:=dor k m t p x ht hf h1 h
def zml (m k:Nat):Array Bool:=((List.range m).map k.testBit).toArray
theorem zhk {ops:Array Oper} {fuel:Nat} {listed:Array Bool} {held:Y9} {Φs:List Pers} (i:Nat) {o:Oper} {v:Value} (listed':Array Bool) (ho:ops[i]?=some o) (hy:I9 P X o E (held.of ops i) Φs v) (h:JH P n X ops fuel listed' K held Φs (Env.put E o.dst v) L Φ)
  (hg:A6h ops o E=some true:=by rfl) (hd:X5 n o.dst=true:=by rfl) (hm:A6n ops held listed i=true:=by kernel_rfl) (hl:listed.setIfInBounds i true=listed':=by kernel_rfl):JH P n X ops (fuel+1) listed K held Φs E L Φ :=
 D5v i _ listed' ho hg hd hm rfl hl hy h
theorem zhl {ops:Array Oper} {fuel:Nat} {listed:Array Bool} {held:Y9} {Φs:List Pers} (i:Nat) {o:Oper} {v:Value} (Ls:Own) (listed':Array Bool) (ho:ops[i]?=some o) (hy:I9 P X o E Ls Φs v) (h:JH P n X ops fuel listed' K held Φs (Env.put E o.dst v) L Φ)
  (hg:A6h ops o E=some true:=by rfl) (hd:X5 n o.dst=true:=by rfl) (hm:A6n ops held listed i=true:=by kernel_rfl) (hLs:held.of ops i=Ls:=by kernel_rfl) (hl:listed.setIfInBounds i true=listed':=by kernel_rfl):JH P n X ops (fuel+1) listed K held Φs E L Φ :=
 D5v i Ls listed' ho hg hd hm hLs hl hy h
theorem zho {ops:Array Oper} {fuel:Nat} {listed:Array Bool} {held:Y9} {Φs:List Pers} (i:Nat) {o:Oper} {α:Type} {val:α→Value} {L':α→Own} {Φ':α→List Pers} (Lh:Own) (listed':Array Bool) (ho:ops[i]?=some o) (ht:Tri P n X o E L Φ α val L' Φ') (hL':∀ x,Lh.Sublist (L' x)) (hΦ':∀ x,A2 (Φ' x) Φs)
  (h:∀ x,JH P n X ops fuel listed' K held Φs (Env.put E o.dst (val x)) (L' x) (Φ' x)) (hg:A6h ops o E=some true:=by rfl) (hd:X5 n o.dst=true:=by rfl) (hr:Region.ready .any ops listed=[i]:=by kernel_rfl) (hl:listed.setIfInBounds i true=listed':=by kernel_rfl) (hh:held.at listed'=Lh:=by kernel_rfl) :
  JH P n X ops (fuel+1) listed K held Φs E L Φ:=hone i Lh listed' ho hg hd hr hl hh ht hL' hΦ' h
theorem zhp {ops:Array Oper} {held:Y9} {Φs:List Pers} (is:List Nat) (fuel:Nat) {listed:Array Bool} (listed':Array Bool) (new:Env) (g:JH P n X ops fuel listed' K held Φs (new++E) L Φ) (h:C7o P n ops held is listed E new=some (listed',new):=by kernel_rfl):JH P n X ops (is.length+fuel) listed K held Φs E L Φ:=D6u is fuel listed' new h g
theorem zja {ρ:Type} {c:Operand} {x y:Code} {p q:Prop} [Decidable p] [Decidable q] {A B R:ρ} (hc:ev E c=some (.bool (decide p&&decide q))) (hR:(bif (decide p&&decide q) then A else B)=R) (h1:A=R→(decide p&&decide q)=true→p∧q→J P n X x Q E L Φ) (h2:B=R→(decide p&&decide q)=false→¬ (p∧q)→J P n X y Q E L Φ):J P n X (.cond c x y) Q E L Φ :=
 S2 hc (fun e=>h1 (bt hR e) e (by simpa using e)) (fun e=>h2 (bf hR e) e (by simpa using e))
theorem zjo {ρ:Type} {c:Operand} {x y:Code} {p q:Prop} [Decidable p] [Decidable q] {A B R:ρ} (hc:ev E c=some (.bool (decide p||decide q))) (hR:(bif (decide p||decide q) then A else B)=R) (h1:A=R→(decide p||decide q)=true→p∨q→J P n X x Q E L Φ) (h2:B=R→(decide p||decide q)=false→¬ (p∨q)→J P n X y Q E L Φ):J P n X (.cond c x y) Q E L Φ :=
 S2 hc (fun e=>h1 (bt hR e) e (by simpa using e)) (fun e=>h2 (bf hR e) e (by simpa using e))
theorem zid {ops:Array Oper} {i:Nat} (k m t p:Nat) {g:Prop} [Decidable g] (x:Bool) (h1:decide g=true→g→JI P n X ops i k (fun a w=>St n X ((p,.bool x)::E) L Φ a w) Q ((t,.bool true)::E) L Φ) (h:JI P n X ops (i+k) m K Q ((p,.bool (decide g&&x))::E) L Φ)
  (ht:E.lookup t=some (.bool (decide g)):=by rfl) (hf:A3i P n ops k i ((t,.bool false)::E) [(p,.bool false)]=some [(p,.bool false)]:=by kernel_rfl):JI P n X ops i (k+m) K Q E L Φ:=D4p k m t p x ht hf (fun e=>h1 e (of_decide_eq_true e)) h
theorem zir {ops:Array Oper} {i:Nat} (k m t p:Nat) {g:Prop} [Decidable g] (x:Bool) (h1:decide g=false→¬ g→JI P n X ops i k (fun a w=>St n X ((p,.bool x)::E) L Φ a w) Q ((t,.bool false)::E) L Φ) (h:JI P n X ops (i+k) m K Q ((p,.bool (decide g||x))::E) L Φ)
  (ht:E.lookup t=some (.bool (decide g)):=by rfl) (hf:A3i P n ops k i ((t,.bool true)::E) [(p,.bool true)]=some [(p,.bool true)]:=by kernel_rfl):JI P n X ops i (k+m) K Q E L Φ:=ior k m t p x ht hf (fun e=>h1 e (of_decide_eq_false e)) h
theorem zdd {ops:Array Oper} {i:Nat} (k m t p:Nat) {g:Prop} [Decidable g] (x:Bool) (h1:decide g=true→g→JD P n X ops i k (fun a _=>a.tmps.size=n∧a.defers=X.marks∧Has a ((p,.bool x)::E)) ((t,.bool true)::E) L Φ) (h:JD P n X ops (i+k) m K ((p,.bool (decide g&&x))::E) L Φ)
  (ht:E.lookup t=some (.bool (decide g)):=by rfl) (hf:A3i P n ops k i ((t,.bool false)::E) [(p,.bool false)]=some [(p,.bool false)]:=by kernel_rfl):JD P n X ops i (k+m) K E L Φ:=D4w k m t p x ht hf (fun e=>h1 e (of_decide_eq_true e)) h
theorem zdr {ops:Array Oper} {i:Nat} (k m t p:Nat) {g:Prop} [Decidable g] (x:Bool) (h1:decide g=false→¬ g→JD P n X ops i k (fun a _=>a.tmps.size=n∧a.defers=X.marks∧Has a ((p,.bool x)::E)) ((t,.bool false)::E) L Φ) (h:JD P n X ops (i+k) m K ((p,.bool (decide g||x))::E) L Φ)
  (ht:E.lookup t=some (.bool (decide g)):=by rfl) (hf:A3i P n ops k i ((t,.bool true)::E) [(p,.bool true)]=some [(p,.bool true)]:=by kernel_rfl):JD P n X ops i (k+m) K E L Φ:=dor k m t p x ht hf (fun e=>h1 e (of_decide_eq_false e)) h
theorem zco {f:FuncId} {fn:Func} {c:Code} {args:List Value} {L0:Own} {Φ0:List Pers} {α:Type} {val:α→Value} {L1:α→Own} {Φ1:α→List Pers} (hf:P.funcs[f]?=some fn) (E0:Env)
  (h:∀ X:Cx,X.M=L0.map Prod.fst→X.rho=none→X.D=[]→J P n X c (C2f P X fn α val L1 Φ1) E0 L0 Φ0) (hb:fn.body=some c:=by rfl) (hn:fn.ntmps=n:=by rfl) (hE:J0 ((List.range args.length).zip args) E0:=by repeat' first|exact trivial|refine ⟨rfl,?_⟩)
  (hnm : (fn.name == "runtime.NumGoroutine") = false := by kernel_rfl) (hle : Nat.ble args.length n = true := by rfl) : Con P f args L0 Φ0 α val L1 Φ1 := C9l hf hb hnm hn hle E0 hE h
abbrev zq {k:Nat} (q:Option Addr) (c:Nat) (h1:k≤c:=by first|omega|(simp only [List.length_take,List.length_drop,List.length_append,List.length_cons,List.length_nil,List.length_set,List.length_map];omega)|(simp<;>omega)|decide) (h2:k≤9223372036854775807:=by first|omega|(simp only [List.length_take,List.length_drop,List.length_append,List.length_cons,List.length_nil,List.length_set,List.length_map];omega)|(simp<;>omega)|decide):{t:Option Addr×Nat // k≤t.2∧k≤9223372036854775807}:=⟨(q,c),h1,h2⟩
end
end Go.Fen
set_option linter.unusedVariables false
namespace Go.Fen
open Go Go.RowKit
section
variable {P:Program} {n:Nat} {X:Cx} {K:Act→World→Prop} {Q:Exit→Act→World→Prop} {E E':Env} {L L':Own} {Φ Φ':List Pers}
theorem B3w {c:Code} {β1:Type} (F:β1→Prop×Env×Own×List Pers×Nat) (x1:β1) (hI:(F x1).1) (hL:List.Sublist (F x1).2.2.1 L) (hΦ:A2 Φ (F x1).2.2.2.1) (h:∀ x1,(F x1).1→J P n X c (Exit.then (fun a w=>∃ y1,(F y1).1∧(F y1).2.2.2.2<(F x1).2.2.2.2∧St n X (F y1).2.1 (F y1).2.2.1 (F y1).2.2.2.1 a w) Q) (F x1).2.1 (F x1).2.2.1 (F x1).2.2.2.1) (hE:J0 E (F x1).2.1:=by repeat' first|exact trivial|refine ⟨rfl,?_⟩|refine ⟨by first|rfl|(simp only [List.length_set,List.length_append,List.length_cons,List.length_nil];rfl)|(simp;done)|(simp;omega),?_⟩):J P n X (.loop c) Q E L Φ :=
 JL1 (fun x1=>(F x1).1) (fun x1=>(F x1).2.1) (fun x1=>(F x1).2.2.1) (fun x1=>(F x1).2.2.2.1) (fun x1=>(F x1).2.2.2.2) x1 hI hE hL hΦ h
theorem B4g {β1:Type} {F:β1→Prop×Env×Own×List Pers×Nat} {z1:β1} (y1:β1) (hI:(F y1).1) (hμ:(F y1).2.2.2.2<(F z1).2.2.2.2) (hL:List.Sublist (F y1).2.2.1 L) (hΦ:A2 Φ (F y1).2.2.2.1) (hE:J0 E (F y1).2.1:=by repeat' first|exact trivial|refine ⟨rfl,?_⟩|refine ⟨by first|rfl|(simp only [List.length_set,List.length_append,List.length_cons,List.length_nil];rfl)|(simp;done)|(simp;omega),?_⟩):JQ n X (fun a w=>∃ x1,(F x1).1∧(F x1).2.2.2.2<(F z1).2.2.2.2∧St n X (F x1).2.1 (F x1).2.2.1 (F x1).2.2.2.1 a w) E L Φ :=
 fun _ _ hs=>⟨y1,hI,hμ,hs.size,hs.defers,hs.has.weaken (I2 hE),(hs.world.sub hL).foll hΦ⟩
theorem B5u {x y:Code} {β1:Type} (F:β1→Prop×Env×Own×List Pers) (hx:J P n X x (Exit.then (fun a w=>∃ x1,(F x1).1∧St n X (F x1).2.1 (F x1).2.2.1 (F x1).2.2.2 a w) Q) E L Φ) (hy:∀ x1,(F x1).1→J P n X y Q (F x1).2.1 (F x1).2.2.1 (F x1).2.2.2):J P n X (.seq x y) Q E L Φ :=
 JS1 (fun x1=>(F x1).1) (fun x1=>(F x1).2.1) (fun x1=>(F x1).2.2.1) (fun x1=>(F x1).2.2.2) hx hy
theorem A2q {β1:Type} {F:β1→Prop×Env×Own×List Pers} (y1:β1) (hI:(F y1).1) (hL:List.Sublist (F y1).2.2.1 L) (hΦ:A2 Φ (F y1).2.2.2) (hE:J0 E (F y1).2.1:=by repeat' first|exact trivial|refine ⟨rfl,?_⟩|refine ⟨by first|rfl|(simp only [List.length_set,List.length_append,List.length_cons,List.length_nil];rfl)|(simp;done)|(simp;omega),?_⟩):JQ n X (fun a w=>∃ x1,(F x1).1∧St n X (F x1).2.1 (F x1).2.2.1 (F x1).2.2.2 a w) E L Φ :=
 fun _ _ hs=>⟨y1,hI,hs.size,hs.defers,hs.has.weaken (I2 hE),(hs.world.sub hL).foll hΦ⟩
theorem C9d {c:Code} {β1 β2:Type} (F:β1→β2→Prop×Env×Own×List Pers×Nat) (x1:β1) (x2:β2) (hI:(F x1 x2).1) (hL:List.Sublist (F x1 x2).2.2.1 L) (hΦ:A2 Φ (F x1 x2).2.2.2.1) (h:∀ x1 x2,(F x1 x2).1→J P n X c (Exit.then (fun a w=>∃ y1 y2,(F y1 y2).1∧(F y1 y2).2.2.2.2<(F x1 x2).2.2.2.2∧St n X (F y1 y2).2.1 (F y1 y2).2.2.1 (F y1 y2).2.2.2.1 a w) Q) (F x1 x2).2.1 (F x1 x2).2.2.1 (F x1 x2).2.2.2.1) (hE:J0 E (F x1 x2).2.1:=by repeat' first|exact trivial|refine ⟨rfl,?_⟩|refine ⟨by first|rfl|(simp only [List.length_set,List.length_append,List.length_cons,List.length_nil];rfl)|(simp;done)|(simp;omega),?_⟩):J P n X (.loop c) Q E L Φ :=
 JL2 (fun x1 x2=>(F x1 x2).1) (fun x1 x2=>(F x1 x2).2.1) (fun x1 x2=>(F x1 x2).2.2.1) (fun x1 x2=>(F x1 x2).2.2.2.1) (fun x1 x2=>(F x1 x2).2.2.2.2) x1 x2 hI hE hL hΦ h
theorem C9t {β1 β2:Type} {F:β1→β2→Prop×Env×Own×List Pers×Nat} {z1:β1} {z2:β2} (y1:β1) (y2:β2) (hI:(F y1 y2).1) (hμ:(F y1 y2).2.2.2.2<(F z1 z2).2.2.2.2) (hL:List.Sublist (F y1 y2).2.2.1 L) (hΦ:A2 Φ (F y1 y2).2.2.2.1) (hE:J0 E (F y1 y2).2.1:=by repeat' first|exact trivial|refine ⟨rfl,?_⟩|refine ⟨by first|rfl|(simp only [List.length_set,List.length_append,List.length_cons,List.length_nil];rfl)|(simp;done)|(simp;omega),?_⟩):JQ n X (fun a w=>∃ x1 x2,(F x1 x2).1∧(F x1 x2).2.2.2.2<(F z1 z2).2.2.2.2∧St n X (F x1 x2).2.1 (F x1 x2).2.2.1 (F x1 x2).2.2.2.1 a w) E L Φ :=
 fun _ _ hs=>⟨y1,y2,hI,hμ,hs.size,hs.defers,hs.has.weaken (I2 hE),(hs.world.sub hL).foll hΦ⟩
theorem D2m {c:Code} {β1 β2 β3:Type} (F:β1→β2→β3→Prop×Env×Own×List Pers×Nat) (x1:β1) (x2:β2) (x3:β3) (hI:(F x1 x2 x3).1) (hL:List.Sublist (F x1 x2 x3).2.2.1 L) (hΦ:A2 Φ (F x1 x2 x3).2.2.2.1) (h:∀ x1 x2 x3,(F x1 x2 x3).1→J P n X c (Exit.then (fun a w=>∃ y1 y2 y3,(F y1 y2 y3).1∧(F y1 y2 y3).2.2.2.2<(F x1 x2 x3).2.2.2.2∧St n X (F y1 y2 y3).2.1 (F y1 y2 y3).2.2.1 (F y1 y2 y3).2.2.2.1 a w) Q) (F x1 x2 x3).2.1 (F x1 x2 x3).2.2.1 (F x1 x2 x3).2.2.2.1) (hE:J0 E (F x1 x2 x3).2.1:=by repeat' first|exact trivial|refine ⟨rfl,?_⟩|refine ⟨by first|rfl|(simp only [List.length_set,List.length_append,List.length_cons,List.length_nil];rfl)|(simp;done)|(simp;omega),?_⟩):J P n X (.loop c) Q E L Φ :=
 JL3 (fun x1 x2 x3=>(F x1 x2 x3).1) (fun x1 x2 x3=>(F x1 x2 x3).2.1) (fun x1 x2 x3=>(F x1 x2 x3).2.2.1) (fun x1 x2 x3=>(F x1 x2 x3).2.2.2.1) (fun x1 x2 x3=>(F x1 x2 x3).2.2.2.2) x1 x2 x3 hI hE hL hΦ h
theorem D0u {β1 β2 β3:Type} {F:β1→β2→β3→Prop×Env×Own×List Pers×Nat} {z1:β1} {z2:β2} {z3:β3} (y1:β1) (y2:β2) (y3:β3) (hI:(F y1 y2 y3).1) (hμ:(F y1 y2 y3).2.2.2.2<(F z1 z2 z3).2.2.2.2) (hL:List.Sublist (F y1 y2 y3).2.2.1 L) (hΦ:A2 Φ (F y1 y2 y3).2.2.2.1) (hE:J0 E (F y1 y2 y3).2.1:=by repeat' first|exact trivial|refine ⟨rfl,?_⟩|refine ⟨by first|rfl|(simp only [List.length_set,List.length_append,List.length_cons,List.length_nil];rfl)|(simp;done)|(simp;omega),?_⟩):JQ n X (fun a w=>∃ x1 x2 x3,(F x1 x2 x3).1∧(F x1 x2 x3).2.2.2.2<(F z1 z2 z3).2.2.2.2∧St n X (F x1 x2 x3).2.1 (F x1 x2 x3).2.2.1 (F x1 x2 x3).2.2.2.1 a w) E L Φ :=
 fun _ _ hs=>⟨y1,y2,y3,hI,hμ,hs.size,hs.defers,hs.has.weaken (I2 hE),(hs.world.sub hL).foll hΦ⟩
theorem D5h {x y:Code} {β1 β2 β3:Type} (F:β1→β2→β3→Prop×Env×Own×List Pers) (hx:J P n X x (Exit.then (fun a w=>∃ x1 x2 x3,(F x1 x2 x3).1∧St n X (F x1 x2 x3).2.1 (F x1 x2 x3).2.2.1 (F x1 x2 x3).2.2.2 a w) Q) E L Φ) (hy:∀ x1 x2 x3,(F x1 x2 x3).1→J P n X y Q (F x1 x2 x3).2.1 (F x1 x2 x3).2.2.1 (F x1 x2 x3).2.2.2):J P n X (.seq x y) Q E L Φ :=
 JS3 (fun x1 x2 x3=>(F x1 x2 x3).1) (fun x1 x2 x3=>(F x1 x2 x3).2.1) (fun x1 x2 x3=>(F x1 x2 x3).2.2.1) (fun x1 x2 x3=>(F x1 x2 x3).2.2.2) hx hy
theorem D1a {β1 β2 β3:Type} {F:β1→β2→β3→Prop×Env×Own×List Pers} (y1:β1) (y2:β2) (y3:β3) (hI:(F y1 y2 y3).1) (hL:List.Sublist (F y1 y2 y3).2.2.1 L) (hΦ:A2 Φ (F y1 y2 y3).2.2.2) (hE:J0 E (F y1 y2 y3).2.1:=by repeat' first|exact trivial|refine ⟨rfl,?_⟩|refine ⟨by first|rfl|(simp only [List.length_set,List.length_append,List.length_cons,List.length_nil];rfl)|(simp;done)|(simp;omega),?_⟩):JQ n X (fun a w=>∃ x1 x2 x3,(F x1 x2 x3).1∧St n X (F x1 x2 x3).2.1 (F x1 x2 x3).2.2.1 (F x1 x2 x3).2.2.2 a w) E L Φ :=
 fun _ _ hs=>⟨y1,y2,y3,hI,hs.size,hs.defers,hs.has.weaken (I2 hE),(hs.world.sub hL).foll hΦ⟩
theorem B2k {c:Code} {β1 β2 β3 β4:Type} (F:β1→β2→β3→β4→Prop×Env×Own×List Pers×Nat) (x1:β1) (x2:β2) (x3:β3) (x4:β4) (hI:(F x1 x2 x3 x4).1) (hL:List.Sublist (F x1 x2 x3 x4).2.2.1 L) (hΦ:A2 Φ (F x1 x2 x3 x4).2.2.2.1) (h:∀ x1 x2 x3 x4,(F x1 x2 x3 x4).1→J P n X c (Exit.then (fun a w=>∃ y1 y2 y3 y4,(F y1 y2 y3 y4).1∧(F y1 y2 y3 y4).2.2.2.2<(F x1 x2 x3 x4).2.2.2.2∧St n X (F y1 y2 y3 y4).2.1 (F y1 y2 y3 y4).2.2.1 (F y1 y2 y3 y4).2.2.2.1 a w) Q) (F x1 x2 x3 x4).2.1 (F x1 x2 x3 x4).2.2.1 (F x1 x2 x3 x4).2.2.2.1) (hE:J0 E (F x1 x2 x3 x4).2.1:=by repeat' first|exact trivial|refine ⟨rfl,?_⟩|refine ⟨by first|rfl|(simp only [List.length_set,List.length_append,List.length_cons,List.length_nil];rfl)|(simp;done)|(simp;omega),?_⟩):J P n X (.loop c) Q E L Φ :=
 JL4 (fun x1 x2 x3 x4=>(F x1 x2 x3 x4).1) (fun x1 x2 x3 x4=>(F x1 x2 x3 x4).2.1) (fun x1 x2 x3 x4=>(F x1 x2 x3 x4).2.2.1) (fun x1 x2 x3 x4=>(F x1 x2 x3 x4).2.2.2.1) (fun x1 x2 x3 x4=>(F x1 x2 x3 x4).2.2.2.2) x1 x2 x3 x4 hI hE hL hΦ h
theorem B1k {β1 β2 β3 β4:Type} {F:β1→β2→β3→β4→Prop×Env×Own×List Pers×Nat} {z1:β1} {z2:β2} {z3:β3} {z4:β4} (y1:β1) (y2:β2) (y3:β3) (y4:β4) (hI:(F y1 y2 y3 y4).1) (hμ:(F y1 y2 y3 y4).2.2.2.2<(F z1 z2 z3 z4).2.2.2.2) (hL:List.Sublist (F y1 y2 y3 y4).2.2.1 L) (hΦ:A2 Φ (F y1 y2 y3 y4).2.2.2.1) (hE:J0 E (F y1 y2 y3 y4).2.1:=by repeat' first|exact trivial|refine ⟨rfl,?_⟩|refine ⟨by first|rfl|(simp only [List.length_set,List.length_append,List.length_cons,List.length_nil];rfl)|(simp;done)|(simp;omega),?_⟩):JQ n X (fun a w=>∃ x1 x2 x3 x4,(F x1 x2 x3 x4).1∧(F x1 x2 x3 x4).2.2.2.2<(F z1 z2 z3 z4).2.2.2.2∧St n X (F x1 x2 x3 x4).2.1 (F x1 x2 x3 x4).2.2.1 (F x1 x2 x3 x4).2.2.2.1 a w) E L Φ :=
 fun _ _ hs=>⟨y1,y2,y3,y4,hI,hμ,hs.size,hs.defers,hs.has.weaken (I2 hE),(hs.world.sub hL).foll hΦ⟩
theorem D6n {x y:Code} {β1 β2 β3 β4:Type} (F:β1→β2→β3→β4→Prop×Env×Own×List Pers) (hx:J P n X x (Exit.then (fun a w=>∃ x1 x2 x3 x4,(F x1 x2 x3 x4).1∧St n X (F x1 x2 x3 x4).2.1 (F x1 x2 x3 x4).2.2.1 (F x1 x2 x3 x4).2.2.2 a w) Q) E L Φ) (hy:∀ x1 x2 x3 x4,(F x1 x2 x3 x4).1→J P n X y Q (F x1 x2 x3 x4).2.1 (F x1 x2 x3 x4).2.2.1 (F x1 x2 x3 x4).2.2.2):J P n X (.seq x y) Q E L Φ :=
 JS4 (fun x1 x2 x3 x4=>(F x1 x2 x3 x4).1) (fun x1 x2 x3 x4=>(F x1 x2 x3 x4).2.1) (fun x1 x2 x3 x4=>(F x1 x2 x3 x4).2.2.1) (fun x1 x2 x3 x4=>(F x1 x2 x3 x4).2.2.2) hx hy
theorem D5m {β1 β2 β3 β4:Type} {F:β1→β2→β3→β4→Prop×Env×Own×List Pers} (y1:β1) (y2:β2) (y3:β3) (y4:β4) (hI:(F y1 y2 y3 y4).1) (hL:List.Sublist (F y1 y2 y3 y4).2.2.1 L) (hΦ:A2 Φ (F y1 y2 y3 y4).2.2.2) (hE:J0 E (F y1 y2 y3 y4).2.1:=by repeat' first|exact trivial|refine ⟨rfl,?_⟩|refine ⟨by first|rfl|(simp only [List.length_set,List.length_append,List.length_cons,List.length_nil];rfl)|(simp;done)|(simp;omega),?_⟩):JQ n X (fun a w=>∃ x1 x2 x3 x4,(F x1 x2 x3 x4).1∧St n X (F x1 x2 x3 x4).2.1 (F x1 x2 x3 x4).2.2.1 (F x1 x2 x3 x4).2.2.2 a w) E L Φ :=
 fun _ _ hs=>⟨y1,y2,y3,y4,hI,hs.size,hs.defers,hs.has.weaken (I2 hE),(hs.world.sub hL).foll hΦ⟩
theorem D7i {c:Code} {β1 β2 β3 β4 β5:Type} (F:β1→β2→β3→β4→β5→Prop×Env×Own×List Pers×Nat) (x1:β1) (x2:β2) (x3:β3) (x4:β4) (x5:β5) (hI:(F x1 x2 x3 x4 x5).1) (hL:List.Sublist (F x1 x2 x3 x4 x5).2.2.1 L) (hΦ:A2 Φ (F x1 x2 x3 x4 x5).2.2.2.1) (h:∀ x1 x2 x3 x4 x5,(F x1 x2 x3 x4 x5).1→J P n X c (Exit.then (fun a w=>∃ y1 y2 y3 y4 y5,(F y1 y2 y3 y4 y5).1∧(F y1 y2 y3 y4 y5).2.2.2.2<(F x1 x2 x3 x4 x5).2.2.2.2∧St n X (F y1 y2 y3 y4 y5).2.1 (F y1 y2 y3 y4 y5).2.2.1 (F y1 y2 y3 y4 y5).2.2.2.1 a w) Q) (F x1 x2 x3 x4 x5).2.1 (F x1 x2 x3 x4 x5).2.2.1 (F x1 x2 x3 x4 x5).2.2.2.1) (hE:J0 E (F x1 x2 x3 x4 x5).2.1:=by repeat' first|exact trivial|refine ⟨rfl,?_⟩|refine ⟨by first|rfl|(simp only [List.length_set,List.length_append,List.length_cons,List.length_nil];rfl)|(simp;done)|(simp;omega),?_⟩):J P n X (.loop c) Q E L Φ :=
 JL5 (fun x1 x2 x3 x4 x5=>(F x1 x2 x3 x4 x5).1) (fun x1 x2 x3 x4 x5=>(F x1 x2 x3 x4 x5).2.1) (fun x1 x2 x3 x4 x5=>(F x1 x2 x3 x4 x5).2.2.1) (fun x1 x2 x3 x4 x5=>(F x1 x2 x3 x4 x5).2.2.2.1) (fun x1 x2 x3 x4 x5=>(F x1 x2 x3 x4 x5).2.2.2.2) x1 x2 x3 x4 x5 hI hE hL hΦ h
theorem D6m {β1 β2 β3 β4 β5:Type} {F:β1→β2→β3→β4→β5→Prop×Env×Own×List Pers×Nat} {z1:β1} {z2:β2} {z3:β3} {z4:β4} {z5:β5} (y1:β1) (y2:β2) (y3:β3) (y4:β4) (y5:β5) (hI:(F y1 y2 y3 y4 y5).1) (hμ:(F y1 y2 y3 y4 y5).2.2.2.2<(F z1 z2 z3 z4 z5).2.2.2.2) (hL:List.Sublist (F y1 y2 y3 y4 y5).2.2.1 L) (hΦ:A2 Φ (F y1 y2 y3 y4 y5).2.2.2.1) (hE:J0 E (F y1 y2 y3 y4 y5).2.1:=by repeat' first|exact trivial|refine ⟨rfl,?_⟩|refine ⟨by first|rfl|(simp only [List.length_set,List.length_append,List.length_cons,List.length_nil];rfl)|(simp;done)|(simp;omega),?_⟩):JQ n X (fun a w=>∃ x1 x2 x3 x4 x5,(F x1 x2 x3 x4 x5).1∧(F x1 x2 x3 x4 x5).2.2.2.2<(F z1 z2 z3 z4 z5).2.2.2.2∧St n X (F x1 x2 x3 x4 x5).2.1 (F x1 x2 x3 x4 x5).2.2.1 (F x1 x2 x3 x4 x5).2.2.2.1 a w) E L Φ :=
 fun _ _ hs=>⟨y1,y2,y3,y4,y5,hI,hμ,hs.size,hs.defers,hs.has.weaken (I2 hE),(hs.world.sub hL).foll hΦ⟩
theorem D6v {c:Code} {β1 β2 β3 β4 β5 β6:Type} (F:β1→β2→β3→β4→β5→β6→Prop×Env×Own×List Pers×Nat) (x1:β1) (x2:β2) (x3:β3) (x4:β4) (x5:β5) (x6:β6) (hI:(F x1 x2 x3 x4 x5 x6).1) (hL:List.Sublist (F x1 x2 x3 x4 x5 x6).2.2.1 L) (hΦ:A2 Φ (F x1 x2 x3 x4 x5 x6).2.2.2.1) (h:∀ x1 x2 x3 x4 x5 x6,(F x1 x2 x3 x4 x5 x6).1→J P n X c (Exit.then (fun a w=>∃ y1 y2 y3 y4 y5 y6,(F y1 y2 y3 y4 y5 y6).1∧(F y1 y2 y3 y4 y5 y6).2.2.2.2<(F x1 x2 x3 x4 x5 x6).2.2.2.2∧St n X (F y1 y2 y3 y4 y5 y6).2.1 (F y1 y2 y3 y4 y5 y6).2.2.1 (F y1 y2 y3 y4 y5 y6).2.2.2.1 a w) Q) (F x1 x2 x3 x4 x5 x6).2.1 (F x1 x2 x3 x4 x5 x6).2.2.1 (F x1 x2 x3 x4 x5 x6).2.2.2.1) (hE:J0 E (F x1 x2 x3 x4 x5 x6).2.1:=by repeat' first|exact trivial|refine ⟨rfl,?_⟩|refine ⟨by first|rfl|(simp only [List.length_set,List.length_append,List.length_cons,List.length_nil];rfl)|(simp;done)|(simp;omega),?_⟩):J P n X (.loop c) Q E L Φ :=
 JL6 (fun x1 x2 x3 x4 x5 x6=>(F x1 x2 x3 x4 x5 x6).1) (fun x1 x2 x3 x4 x5 x6=>(F x1 x2 x3 x4 x5 x6).2.1) (fun x1 x2 x3 x4 x5 x6=>(F x1 x2 x3 x4 x5 x6).2.2.1) (fun x1 x2 x3 x4 x5 x6=>(F x1 x2 x3 x4 x5 x6).2.2.2.1) (fun x1 x2 x3 x4 x5 x6=>(F x1 x2 x3 x4 x5 x6).2.2.2.2) x1 x2 x3 x4 x5 x6 hI hE hL hΦ h
theorem D7e {β1 β2 β3 β4 β5 β6:Type} {F:β1→β2→β3→β4→β5→β6→Prop×Env×Own×List Pers×Nat} {z1:β1} {z2:β2} {z3:β3} {z4:β4} {z5:β5} {z6:β6} (y1:β1) (y2:β2) (y3:β3) (y4:β4) (y5:β5) (y6:β6) (hI:(F y1 y2 y3 y4 y5 y6).1) (hμ:(F y1 y2 y3 y4 y5 y6).2.2.2.2<(F z1 z2 z3 z4 z5 z6).2.2.2.2) (hL:List.Sublist (F y1 y2 y3 y4 y5 y6).2.2.1 L) (hΦ:A2 Φ (F y1 y2 y3 y4 y5 y6).2.2.2.1) (hE:J0 E (F y1 y2 y3 y4 y5 y6).2.1:=by repeat' first|exact trivial|refine ⟨rfl,?_⟩|refine ⟨by first|rfl|(simp only [List.length_set,List.length_append,List.length_cons,List.length_nil];rfl)|(simp;done)|(simp;omega),?_⟩):JQ n X (fun a w=>∃ x1 x2 x3 x4 x5 x6,(F x1 x2 x3 x4 x5 x6).1∧(F x1 x2 x3 x4 x5 x6).2.2.2.2<(F z1 z2 z3 z4 z5 z6).2.2.2.2∧St n X (F x1 x2 x3 x4 x5 x6).2.1 (F x1 x2 x3 x4 x5 x6).2.2.1 (F x1 x2 x3 x4 x5 x6).2.2.2.1 a w) E L Φ :=
 fun _ _ hs=>⟨y1,y2,y3,y4,y5,y6,hI,hμ,hs.size,hs.defers,hs.has.weaken (I2 hE),(hs.world.sub hL).foll hΦ⟩
theorem D7c {c:Code} {β1 β2 β3 β4 β5 β6 β7:Type} (F:β1→β2→β3→β4→β5→β6→β7→Prop×Env×Own×List Pers×Nat) (x1:β1) (x2:β2) (x3:β3) (x4:β4) (x5:β5) (x6:β6) (x7:β7) (hI:(F x1 x2 x3 x4 x5 x6 x7).1) (hL:List.Sublist (F x1 x2 x3 x4 x5 x6 x7).2.2.1 L) (hΦ:A2 Φ (F x1 x2 x3 x4 x5 x6 x7).2.2.2.1) (h:∀ x1 x2 x3 x4 x5 x6 x7,(F x1 x2 x3 x4 x5 x6 x7).1→J P n X c (Exit.then (fun a w=>∃ y1 y2 y3 y4 y5 y6 y7,(F y1 y2 y3 y4 y5 y6 y7).1∧(F y1 y2 y3 y4 y5 y6 y7).2.2.2.2<(F x1 x2 x3 x4 x5 x6 x7).2.2.2.2∧St n X (F y1 y2 y3 y4 y5 y6 y7).2.1 (F y1 y2 y3 y4 y5 y6 y7).2.2.1 (F y1 y2 y3 y4 y5 y6 y7).2.2.2.1 a w) Q) (F x1 x2 x3 x4 x5 x6 x7).2.1 (F x1 x2 x3 x4 x5 x6 x7).2.2.1 (F x1 x2 x3 x4 x5 x6 x7).2.2.2.1) (hE:J0 E (F x1 x2 x3 x4 x5 x6 x7).2.1:=by repeat' first|exact trivial|refine ⟨rfl,?_⟩|refine ⟨by first|rfl|(simp only [List.length_set,List.length_append,List.length_cons,List.length_nil];rfl)|(simp;done)|(simp;omega),?_⟩):J P n X (.loop c) Q E L Φ :=
 JL7 (fun x1 x2 x3 x4 x5 x6 x7=>(F x1 x2 x3 x4 x5 x6 x7).1) (fun x1 x2 x3 x4 x5 x6 x7=>(F x1 x2 x3 x4 x5 x6 x7).2.1) (fun x1 x2 x3 x4 x5 x6 x7=>(F x1 x2 x3 x4 x5 x6 x7).2.2.1) (fun x1 x2 x3 x4 x5 x6 x7=>(F x1 x2 x3 x4 x5 x6 x7).2.2.2.1) (fun x1 x2 x3 x4 x5 x6 x7=>(F x1 x2 x3 x4 x5 x6 x7).2.2.2.2) x1 x2 x3 x4 x5 x6 x7 hI hE hL hΦ h
theorem D7f {β1 β2 β3 β4 β5 β6 β7:Type} {F:β1→β2→β3→β4→β5→β6→β7→Prop×Env×Own×List Pers×Nat} {z1:β1} {z2:β2} {z3:β3} {z4:β4} {z5:β5} {z6:β6} {z7:β7} (y1:β1) (y2:β2) (y3:β3) (y4:β4) (y5:β5) (y6:β6) (y7:β7) (hI:(F y1 y2 y3 y4 y5 y6 y7).1) (hμ:(F y1 y2 y3 y4 y5 y6 y7).2.2.2.2<(F z1 z2 z3 z4 z5 z6 z7).2.2.2.2) (hL:List.Sublist (F y1 y2 y3 y4 y5 y6 y7).2.2.1 L) (hΦ:A2 Φ (F y1 y2 y3 y4 y5 y6 y7).2.2.2.1) (hE:J0 E (F y1 y2 y3 y4 y5 y6 y7).2.1:=by repeat' first|exact trivial|refine ⟨rfl,?_⟩|refine ⟨by first|rfl|(simp only [List.length_set,List.length_append,List.length_cons,List.length_nil];rfl)|(simp;done)|(simp;omega),?_⟩):JQ n X (fun a w=>∃ x1 x2 x3 x4 x5 x6 x7,(F x1 x2 x3 x4 x5 x6 x7).1∧(F x1 x2 x3 x4 x5 x6 x7).2.2.2.2<(F z1 z2 z3 z4 z5 z6 z7).2.2.2.2∧St n X (F x1 x2 x3 x4 x5 x6 x7).2.1 (F x1 x2 x3 x4 x5 x6 x7).2.2.1 (F x1 x2 x3 x4 x5 x6 x7).2.2.2.1 a w) E L Φ :=
 fun _ _ hs=>⟨y1,y2,y3,y4,y5,y6,y7,hI,hμ,hs.size,hs.defers,hs.has.weaken (I2 hE),(hs.world.sub hL).foll hΦ⟩
theorem D5t {x y:Code} {β1 β2 β3 β4 β5 β6 β7:Type} (F:β1→β2→β3→β4→β5→β6→β7→Prop×Env×Own×List Pers) (hx:J P n X x (Exit.then (fun a w=>∃ x1 x2 x3 x4 x5 x6 x7,(F x1 x2 x3 x4 x5 x6 x7).1∧St n X (F x1 x2 x3 x4 x5 x6 x7).2.1 (F x1 x2 x3 x4 x5 x6 x7).2.2.1 (F x1 x2 x3 x4 x5 x6 x7).2.2.2 a w) Q) E L Φ) (hy:∀ x1 x2 x3 x4 x5 x6 x7,(F x1 x2 x3 x4 x5 x6 x7).1→J P n X y Q (F x1 x2 x3 x4 x5 x6 x7).2.1 (F x1 x2 x3 x4 x5 x6 x7).2.2.1 (F x1 x2 x3 x4 x5 x6 x7).2.2.2):J P n X (.seq x y) Q E L Φ :=
 JS7 (fun x1 x2 x3 x4 x5 x6 x7=>(F x1 x2 x3 x4 x5 x6 x7).1) (fun x1 x2 x3 x4 x5 x6 x7=>(F x1 x2 x3 x4 x5 x6 x7).2.1) (fun x1 x2 x3 x4 x5 x6 x7=>(F x1 x2 x3 x4 x5 x6 x7).2.2.1) (fun x1 x2 x3 x4 x5 x6 x7=>(F x1 x2 x3 x4 x5 x6 x7).2.2.2) hx hy
theorem D1h {β1 β2 β3 β4 β5 β6 β7:Type} {F:β1→β2→β3→β4→β5→β6→β7→Prop×Env×Own×List Pers} (y1:β1) (y2:β2) (y3:β3) (y4:β4) (y5:β5) (y6:β6) (y7:β7) (hI:(F y1 y2 y3 y4 y5 y6 y7).1) (hL:List.Sublist (F y1 y2 y3 y4 y5 y6 y7).2.2.1 L) (hΦ:A2 Φ (F y1 y2 y3 y4 y5 y6 y7).2.2.2) (hE:J0 E (F y1 y2 y3 y4 y5 y6 y7).2.1:=by repeat' first|exact trivial|refine ⟨rfl,?_⟩|refine ⟨by first|rfl|(simp only [List.length_set,List.length_append,List.length_cons,List.length_nil];rfl)|(simp;done)|(simp;omega),?_⟩):JQ n X (fun a w=>∃ x1 x2 x3 x4 x5 x6 x7,(F x1 x2 x3 x4 x5 x6 x7).1∧St n X (F x1 x2 x3 x4 x5 x6 x7).2.1 (F x1 x2 x3 x4 x5 x6 x7).2.2.1 (F x1 x2 x3 x4 x5 x6 x7).2.2.2 a w) E L Φ :=
 fun _ _ hs=>⟨y1,y2,y3,y4,y5,y6,y7,hI,hs.size,hs.defers,hs.has.weaken (I2 hE),(hs.world.sub hL).foll hΦ⟩
theorem zst {o:Oper} {T U:TypeId} {x y:Operand} {a b:List UInt8} (ho:o.op=.binOp .add T x y U) (hx:ev E x=some (.string (bs a))) (hy:ev E y=some (.string (bs b))) (h:a.length+b.length≤9223372036854775807:=by first|omega|(simp only [List.length_cons,List.length_nil,List.length_append,List.length_take,List.length_drop];omega)):I9 P X o E L Φ (.string (bs (a++b))):=C7g ho hx hy h
end
end Go.Fen
set_option linter.unusedVariables false
set_option linter.unusedSimpArgs false
namespace Go.Fen
open Go Go.RowKit
section
variable {P:Program} {n:Nat} {X:Cx} {K:Act→World→Prop} {Q:Exit→Act→World→Prop} {E E':Env} {L L':Own} {Φ Φ':List Pers}
theorem Tri.own {o:Oper} {α:Type} {val:α→Value} {L1:α→Own} {Φ1:α→List Pers} (h:Tri P n X o E L Φ α val L1 Φ1) (L':α→Own) (hL:∀ x,L1 x=L' x):Tri P n X o E L Φ α val L' Φ1:=by
 obtain rfl:L1=L':=funext hL
 exact h
end
end Go.Fen
set_option linter.unusedVariables false
set_option linter.unusedSimpArgs false
namespace Go.Fen
open Go Go.RowKit
section
variable {P:Program} {n:Nat} {X:Cx} {K:Act→World→Prop} {Q:Exit→Act→World→Prop} {E E':Env} {L L':Own} {Φ Φ':List Pers}
theorem B4l {T e sz ty b off dLen dCap sLen sCap TT:Nat} {a:Addr} {w:World} {cs us:List Value} (hT:SlTy P T e sz) (hg:w.heap[b]?=some (.cells cs.toArray TT (0,0))) (hn:us.length=Nat.min sLen dLen * sz) (hsrc:∀ j v,us[j]?=some v→w.cell? (a.add j)=some v)
  (hone:∀ v ∈ us,v.oneCell'=true) (hfit:off+us.length≤cs.length) :
  (Builtin.copy_ #[T,T] ty #[.slice (some ⟨b,off,none⟩) dLen dCap,.slice (some a) sLen sCap]).run P w=.ok (goInt (Nat.min sLen dLen)) (w.setRow b (X3 cs us off).toArray):=by
 have hl:=run_firstCells_some (P:=P) w sz (Nat.min sLen dLen) a sLen sCap us hn hsrc
 have hst:=run_storeCells_at P b off TT us 0 cs.toArray w hg (by simpa using hfit) hone
 simp only [Builtin.copy_,Sem.run_bind,run_underlying hT.ty,Result.andThen_ok,hT.run,Builtin.lenOf]
 simp [hl,hst,X3,Builtin.lenOf,run_underlying hT.ty,hT.run]
theorem B0v {T e sz ty dLen dCap sLen sCap:Nat} {d s:Option Addr} {w:World} (hT:SlTy P T e sz) (hn:Nat.min sLen dLen=0) :
  (Builtin.copy_ #[T,T] ty #[.slice d dLen dCap,.slice s sLen sCap]).run P w=.ok (goInt 0) w:=by
 have hl:∀ (x:Addr),(loadCells x 0).run P w=.ok #[] w:=fun x=>by simpa using run_loadCells_list (P:=P) w x [] (by simp)
 cases d<;>cases s<;>simp [Builtin.copy_,run_underlying hT.ty,hT.run,Builtin.lenOf,Builtin.firstCells,hn,storeCells,hl]
theorem A7y {α:Type} {f:α→List Value} {sz:Nat} (hf:∀ x,(f x).length=sz) (xs:List α) (k:Nat):(xs.take k).flatMap f=(xs.flatMap f).take (k * sz):=by
 induction xs generalizing k with
 | nil=>simp
 | cons x xs ih =>
  cases k with
  | zero=>simp
  | succ k =>
   rw [List.take_succ_cons,List.flatMap_cons,List.flatMap_cons,ih,Nat.succ_mul,List.take_append,hf,Nat.add_sub_cancel,List.take_of_length_le (l:=f x) (by rw [hf];omega)]
theorem C1r {α:Type} {f:α→List Value} {sz:Nat} (hf:∀ x,(f x).length=sz) (xs:List α) (k:Nat):(xs.drop k).flatMap f=(xs.flatMap f).drop (k * sz):=by
 induction xs generalizing k with
 | nil=>simp
 | cons x xs ih =>
  cases k with
  | zero=>simp
  | succ k =>
   rw [List.drop_succ_cons,List.flatMap_cons,ih,Nat.succ_mul,List.drop_append,hf,Nat.add_sub_cancel,List.drop_of_length_le (l:=f x) (by rw [hf];omega),List.nil_append]
theorem C2o {α:Type} {f:α→List Value} {sz:Nat} (hf:∀ x,(f x).length=sz) (xs ys:List α) (j:List Value) (l:Nat) (h:l+ys.length≤xs.length):X3 (xs.flatMap f++j) (ys.flatMap f) (l * sz)=(xs.take l++(ys++xs.drop (l+ys.length))).flatMap f++j:=by
 have hl:l * sz≤(xs.flatMap f).length:=by rw [E2 hf];exact Nat.mul_le_mul_right _ (by omega)
 have hl2:l * sz+ys.length * sz≤(xs.flatMap f).length:=by rw [E2 hf,← Nat.add_mul];exact Nat.mul_le_mul_right _ h
 unfold X3
 rw [E2 hf ys,List.take_append_of_le_length hl,List.drop_append_of_le_length hl2,List.flatMap_append,List.flatMap_append,A7y hf,C1r hf,Nat.add_mul]
 simp only [List.append_assoc]
theorem StW.vec {T:Nat} {α:Type} {f:α→List Value} {b k:Nat} {j:List Value} {xs ys:List α} {pre post:Own} {w:World} (hw:StW X (pre++(vo f T ⟨some b,k,j⟩ xs++post)) Φ w):StW X (pre++(vo f T ⟨some b,k,j⟩ ys++post)) Φ (w.setRow b (ys.flatMap f++j).toArray):=by
 have hg:w.heap[b]?=some (.cells (xs.flatMap f++j).toArray T (0,0)):=by
  obtain ⟨p,hp⟩:=hw
  exact (hp.own.1 (bx b (xs.flatMap f++j) T) (List.mem_append_right _ (List.mem_append_left _ (by unfold vo;simp)))).1
 have hL:(pre++(vo f T ⟨some b,k,j⟩ xs++post))[pre.length]?=some (bx b (xs.flatMap f++j) T):=by simp [vo]
 have h:=hw.set (w':=w.setRow b (ys.flatMap f++j).toArray) hL (setRow_heap w b _ _ T (0,0) hg) (fun k hk=>setRow_other w b k _ hk) rfl rfl rfl (by simp)
 have e:(pre++(vo f T ⟨some b,k,j⟩ xs++post)).set pre.length (bx b (ys.flatMap f++j) T)=pre++(vo f T ⟨some b,k,j⟩ ys++post):=by simp [vo]
 rw [← e];exact h
theorem C6q {o:Oper} {c:Call} {T e sz:Nat} {x y:Operand} {α:Type} {f:α→List Value} {r:VR} {xs ys:List α} {q:Option Addr} {m cc:Nat} {pre post:Own} (hT:SlTy P T e sz) (hf:∀ x,(f x).length=sz) (hf1:∀ x,(f x).all (·.oneCell')=true)
  (ho:o.op=.call c) (hc:c.callee=.builtin .copy) (hca:c.args=#[x,y]) (hct:c.argTypes=#[T,T]) (hx:ev E x=some (vv r xs.length)) (hy:ev E y=some (.slice q m cc)) (hm:m=ys.length) (hL:L=pre++(vo f e r xs++post))
  (hq:O7 Φ (sl f q ys)) (hok:VOk sz xs.length r) :
  Tri P n X o E L Φ Unit (fun _=>.int .i64 ((min ys.length xs.length:Nat):Int)) (fun _=>pre++(vo f e r (ys.take xs.length++xs.drop ys.length)++post)) (fun _=>Φ):=by
 subst hm
 intro ac w K Q hs hk
 have hw:=hs.world
 rw [hL] at hw
 obtain ⟨w',hrun,hw'⟩:∃ w',(Builtin.copy_ #[T,T] o.type #[vv r xs.length,.slice q ys.length cc]).run P w=.ok (goInt (Nat.min ys.length xs.length)) w'∧StW X (pre++(vo f e r (ys.take xs.length++xs.drop ys.length)++post)) Φ w':=by
  obtain ⟨rq,rk,rj⟩:=r
  by_cases h0:Nat.min ys.length xs.length=0
  ·refine ⟨w,by rw [h0];exact B0v hT h0,?_⟩
   have e:ys.take xs.length++xs.drop ys.length=xs:=by
    rcases Nat.eq_zero_or_pos xs.length with hx0 | hx0
    ·have:=List.eq_nil_of_length_eq_zero hx0;subst this;simp
    ·have hy0:ys.length=0:=by have h1:min ys.length xs.length=0:=h0;omega
     have:=List.eq_nil_of_length_eq_zero hy0;subst this;simp
   rw [e];exact hw
  ·have h0':¬ min ys.length xs.length=0:=h0
   cases rq with
   | none =>
    have h9:xs.length=0∧rk=0:=hok
    omega
   | some b =>
    obtain ⟨p,hp⟩:=hw
    have hw:StW X (pre++(vo f e ⟨some b,rk,rj⟩ xs++post)) Φ w:=⟨p,hp⟩
    have hfact:=hq p hp.facts
    cases q with
    | none=>have h9:ys=[]:=hfact;subst h9;simp at h0'
    | some a =>
     have hcells:A2v p a (ys.flatMap f):=hfact
     have hg:w.heap[b]?=some (.cells (xs.flatMap f++rj).toArray e (0,0)):=(hp.own.1 (bx b (xs.flatMap f++rj) e) (List.mem_append_right _ (List.mem_append_left _ (by unfold vo;simp)))).1
     have hlen:((ys.take xs.length).flatMap f).length=Nat.min ys.length xs.length * sz:=by rw [E2 hf,List.length_take,Nat.min_comm]
     have hrun:=B4l (P:=P) (ty:=o.type) (b:=b) (off:=0) (dLen:=xs.length) (dCap:=rk) (sLen:=ys.length) (sCap:=cc) (a:=a) (w:=w) (cs:=xs.flatMap f++rj) (us:=(ys.take xs.length).flatMap f) hT hg hlen
      (fun j u hj=>hcells.cell hp.sub (by
       rw [A7y hf,List.getElem?_take] at hj
       split at hj
       ·exact hj
       ·cases hj)) (A9l hf1 _) (by rw [hlen,List.length_append,E2 hf];have:Nat.min ys.length xs.length≤xs.length:=Nat.min_le_right _ _;have:=Nat.mul_le_mul_right sz this;omega)
     have hput:=C2o hf xs (ys.take xs.length) rj 0 (by rw [List.length_take];omega)
     rw [Nat.zero_mul,List.take_zero,List.nil_append,Nat.zero_add] at hput
     have hd:xs.drop (ys.take xs.length).length=xs.drop ys.length:=by
      rw [List.length_take]
      by_cases h:ys.length≤xs.length
      ·rw [Nat.min_eq_right h]
      ·rw [Nat.min_eq_left (by omega),List.drop_of_length_le (Nat.le_refl _),List.drop_of_length_le (by omega)]
     rw [hd] at hput
     rw [hput] at hrun
     exact ⟨_,hrun,hw.vec (ys:=ys.take xs.length++xs.drop ys.length)⟩
 refine A3b (by rw [ho];rfl) ?_
 unfold Oper.wp
 rw [show (execOp ac.eval o).run P w=.ok (.value (goInt (Nat.min ys.length xs.length))) w' by
  simp [execOp,ho,resolve,hc,hca,hct,C0 hs.has hx,C0 hs.has hy,invoke,builtin,hrun]]
 exact hk () w' hw'
theorem C7m {o:Oper} {c:Call} {T e sz:Nat} {x y:Operand} {α:Type} {f:α→List Value} {r:VR} {xs:List α} {l h dn dk:Nat} {pre post:Own} (hT:SlTy P T e sz) (hf:∀ x,(f x).length=sz) (hf1:∀ x,(f x).all (·.oneCell')=true)
  (ho:o.op=.call c) (hc:c.callee=.builtin .copy) (hca:c.args=#[x,y]) (hct:c.argTypes=#[T,T]) (hx:ev E x=some (.slice (A6d (va r.q) l sz r.k) dn dk)) (hy:ev E y=some (.slice (va r.q) h r.k)) (hL:L=pre++(vo f e r xs++post)) (hok:VOk sz xs.length r) (h1:l+dn=xs.length) (h2:h≤xs.length) :
  Tri P n X o E L Φ Unit (fun _=>.int .i64 ((min h dn:Nat):Int)) (fun _=>pre++(vo f e r (xs.take l++(xs.take (min h dn)++xs.drop (l+min h dn)))++post)) (fun _=>Φ):=by
 intro ac w K Q hs hk
 have hw:=hs.world
 rw [hL] at hw
 obtain ⟨w',hrun,hw'⟩:∃ w',(Builtin.copy_ #[T,T] o.type #[.slice (A6d (va r.q) l sz r.k) dn dk,.slice (va r.q) h r.k]).run P w=.ok (goInt (Nat.min h dn)) w'∧StW X (pre++(vo f e r (xs.take l++((xs.take (Nat.min h dn))++xs.drop (l+Nat.min h dn)))++post)) Φ w':=by
  obtain ⟨rq,rk,rj⟩:=r
  by_cases h0:Nat.min h dn=0
  ·refine ⟨w,by rw [h0];exact B0v hT h0,?_⟩
   rw [h0,List.take_zero,List.nil_append,Nat.add_zero,List.take_append_drop];exact hw
  ·have h0':¬ min h dn=0:=h0
   cases rq with
   | none =>
    have h9:xs.length=0∧rk=0:=hok
    omega
   | some b =>
    obtain ⟨p,hp⟩:=hw
    have hw:StW X (pre++(vo f e ⟨some b,rk,rj⟩ xs++post)) Φ w:=⟨p,hp⟩
    have hok':xs.length * sz+rj.length=rk * sz∧xs.length≤rk∧rk≤maxLen:=hok
    have hsub:A6d (va (some b)) l sz rk=some ⟨b,l * sz,none⟩:=by
     unfold A6d
     rw [if_neg (by omega)]
     simp [va,U3]
    have hg:w.heap[b]?=some (.cells (xs.flatMap f++rj).toArray e (0,0)):=(hp.own.1 (bx b (xs.flatMap f++rj) e) (List.mem_append_right _ (List.mem_append_left _ (by unfold vo;simp)))).1
    have hmin:Nat.min h dn≤h:=Nat.min_le_left _ _
    have hmin2:Nat.min h dn≤dn:=Nat.min_le_right _ _
    have hlen:((xs.take (Nat.min h dn)).flatMap f).length=Nat.min h dn * sz:=by rw [E2 hf,List.length_take,Nat.min_eq_left (by omega)]
    have hrun:=B4l (P:=P) (ty:=o.type) (b:=b) (off:=l * sz) (dLen:=dn) (dCap:=dk) (sLen:=h) (sCap:=rk) (a:=⟨b,0,none⟩) (w:=w) (cs:=xs.flatMap f++rj) (us:=(xs.take (Nat.min h dn)).flatMap f) hT hg hlen
     (fun j u hj=>by
      rw [U3]
      simp only [World.cell?,hg,Nat.zero_add]
      rw [A7y hf,List.getElem?_take] at hj
      split at hj
      ·rw [List.getElem?_toArray,List.getElem?_append_left (List.getElem?_eq_some_iff.1 hj).1];exact hj
      ·cases hj) (A9l hf1 _) (by rw [hlen,List.length_append,E2 hf,← Nat.add_mul];have:=Nat.mul_le_mul_right sz (show l+Nat.min h dn≤xs.length by omega);omega)
    have hput:=C2o hf xs (xs.take (Nat.min h dn)) rj l (by rw [List.length_take,Nat.min_eq_left (by omega)];omega)
    rw [List.length_take,Nat.min_eq_left (by omega:Nat.min h dn≤xs.length)] at hput
    rw [hput] at hrun
    rw [hsub]
    exact ⟨_,hrun,hw.vec (ys:=xs.take l++((xs.take (Nat.min h dn))++xs.drop (l+Nat.min h dn)))⟩
 refine A3b (by rw [ho];rfl) ?_
 unfold Oper.wp
 rw [show (execOp ac.eval o).run P w=.ok (.value (goInt (Nat.min h dn))) w' by
  simp [execOp,ho,resolve,hc,hca,hct,C0 hs.has hx,C0 hs.has hy,invoke,builtin,hrun]]
 exact hk () w' hw'
end
end Go.Fen
set_option linter.unusedVariables false
set_option linter.unusedSimpArgs false
namespace Go.Fen
open Go Go.RowKit
structure Rwq where
 s:Slc
 b:Bool
def B7 (r:Rwq):List Value:=[.slice r.s.q r.s.n r.s.k,.bool r.b]
def B2i (P:Program) (gf:FuncId) (lb:List Value) (L1:Own) (Φ0:List Pers) {α:Type} (c:α→List Value) (xs:List (List α)):Prop :=
 HasBody P gf∧∀ (l:Nat) (w:World) (h:Hp) (I:List (List α)→Own→List Pers→Prop) (Ix:Own→List Pers→Prop) (L:Own) (Φ:List Pers),I xs L Φ→(∀ q ∈ Φ0,q.p h)→(∀ q ∈ Φ,q.p h)→h.sub w→A0i (L1++L) h w →
  (∀ x rest L Φ q k,x.length≤k→x.length≤9223372036854775807→I (x::rest) L Φ→A9t P l (.slice q x.length k) L (sl c q x::Φ) fun b L' Φ'=>if b then I rest L' Φ' else Ix L' Φ') →
  Calls P gf (#[.func (.yield l) #[] #[]]++lb.toArray) w fun e w'=>(∃ v,e=.returned v)∧∃ L' Φ',(I [] L' Φ'∨Ix L' Φ')∧StW (cx w h ((L1++L).map Prod.fst)) L' Φ' w'
section
variable {P:Program} {n:Nat} {X:Cx} {K:Act→World→Prop} {Q:Exit→Act→World→Prop} {E E':Env} {L L':Own} {Φ Φ':List Pers}
theorem B6f {gf:FuncId} {fn:Func} {c:Code} {lb:List Value} {Φ0:List Pers} {α:Type} {cc:α→List Value} {xs:List (List α)} (L1:Own)
  (hf : P.funcs[gf]? = some fn) (hb : fn.body = some c) (hnm : (fn.name == "runtime.NumGoroutine") = false) (hn : fn.ntmps = n) (hle : Nat.ble (lb.length + 1) n = true) (E0 : Nat → Env) (hE : ∀ l, J0 ((List.range (lb.length + 1)).zip (.func (.yield l) #[] #[] :: lb)) (E0 l))
  (h:∀ (X:Cx) (l:Nat) (I:List (List α)→Own→List Pers→Prop) (Ix:Own→List Pers→Prop) (L:Own) (Φ:List Pers),X.M=(L1++L).map Prod.fst→X.rho=none→X.D=[]→I xs L Φ →
   (∀ x rest L Φ q k,x.length≤k→x.length≤9223372036854775807→I (x::rest) L Φ→A9t P l (.slice q x.length k) L (sl cc q x::Φ) fun b L' Φ'=>if b then I rest L' Φ' else Ix L' Φ')→J P n X c (C5u P X fn fun L' Φ'=>I [] L' Φ'∨Ix L' Φ') (E0 l) (L1++(L++[])) (Φ0++Φ)):B2i P gf lb L1 Φ0 cc xs:=by
 refine ⟨⟨by simp [hf,hb,hnm]⟩,fun l w p I Ix L Φ hI hΦ0 hΦ hs ho hy=>?_⟩
 have hargs:(#[.func (.yield l) #[] #[]]++lb.toArray:Array Value)=(Value.func (.yield l) #[] #[]::lb).toArray:=by simp
 rw [hargs]
 simp only [List.append_nil] at h
 refine (callsIn_wide (n:=0)).1 (callsIn_of_wp_marks (F:=Fence.wide) hf hb trivial (h (cx w p ((L1++L).map Prod.fst)) l I Ix L Φ rfl rfl rfl hI hy _ w ⟨?_,rfl,?_,p,⟨?_,hs,Hp.le_refl p,fun b hb=>.inl hb,ho,fun e he=>.inl (List.mem_map_of_mem he),KeptBut.refl _ w,fun d hd=>(by cases hd)⟩⟩))
 ·have hle':lb.length+1≤n:=Nat.le_of_ble_eq_true hle
  simp [hn];omega
 ·rw [hn]
  exact B4c (args:=Value.func (.yield l) #[] #[]::lb) hle (hE l)
 ·intro q hq
  rcases List.mem_append.1 hq with hq | hq
  ·exact hΦ0 q hq
  ·exact hΦ q hq
theorem C3t {g:Operand} {p:Nat} {ps:Array Tmp} {assign body:Code} {gf:FuncId} {lb:List Value} {Φ0:List Pers} {α:Type} {cc:α→List Value} {xs:List (List α)}
  (hro:X.rho=none) (hg:ev E g=some (.func (.func gf) #[] lb.toArray)) {L1:Own} (hit:B2i P gf lb L1 Φ0 cc xs) (hΦ0:A2 Φ Φ0) (hps:ps=#[p]) (hpn:X5 n (some p)=true)
  {σ:Type} (I:List (List α)→σ→Prop) (Jx:Code→σ→Prop) (Lk:σ→Own) (Φk:σ→List Pers) (s0:σ) (h0:I xs s0) (hL:(Lk s0++L1).Sublist L) (hΦ:A2 Φ (Φk s0))
  (hround:∀ x rest s q k,x.length≤k→x.length≤9223372036854775807→I (x::rest) s→∀ (Y Y':Cx) (K:Act→World→Prop),Y.rho.isSome=true →
   (∀ E L Φ,J P n Y' body (RP Y' I Jx Lk Φk rest) E L Φ→JQ n Y K E L Φ)→J P n Y assign (Exit.then K (fun _ _ _=>False)) (Env.put E (some p) (.slice q x.length k)) (Lk s) (sl cc q x::Φk s))
  (hafter:∀ d s,d ∉ X.D.map Prod.fst→I [] s→JQ n (X.wd ((d,.deferred (some []))::X.D)) (Q .normal) E (Lk s) (Φk s))
  (hstop:∀ d c s,d ∉ X.D.map Prod.fst→Jx c s→J P n (X.wd ((d,.deferred (some []))::X.D)) c Q E (Lk s) (Φk s)):J P n X (.rangeFunc g ps assign body) Q E L Φ:=by
 intro a w hs
 subst hps
 rw [hro]
 refine wpIn_rangeFunc ?_
 intro fn _
 obtain ⟨rec,hrec⟩:∃ rec:LoopState→Option Code→Loop,rec=fun st pe=>{state:=st,pending:=pe,fn,tmps:=a.tmps,params:=#[p],assign,body,defers:=w.heap.size}:=⟨_,rfl⟩
 have he:=run_enterLoop_outer (P:=P) (w:=w) fn a.tmps #[p] assign body
 rw [show ({state:=.ready,pending:=none,fn:=fn,tmps:=a.tmps,params:=#[p],assign:=assign,body:=body,defers:=w.heap.size}:Loop)=rec .ready none by rw [hrec]] at he
 obtain ⟨w1,hw1⟩:∃ w1,(w.alloc (.deferred (some []))).alloc (.loop (rec .ready none))=w1:=⟨_,rfl⟩
 rw [hw1] at he
 refine ⟨w.heap.size+1,[B5q w.heap.size],w1,{target:=.fn (.func gf) lb.toArray,args:=#[.func (.yield (w.heap.size+1)) #[] #[]]},w1,gf,
  #[.func (.yield (w.heap.size+1)) #[] #[]]++lb.toArray,w1,he,?_,fun _ _=>trivial,?_,A6b,?_⟩
 ·simp only [resolve,C0 hs.has hg]
  simp [go_sem]
 ·simp [invoke,A0p hit.1]
 ·-- the caller's state,the two blocks laid
  have hst:StW X ((w.heap.size+1,.loop (rec .ready none))::(w.heap.size,.deferred (some []))::(Lk s0++L1)) Φ w1:=by
   have h1:=(hs.world.sub hL).alloc (.deferred (some []))
   have h2:=h1.alloc (.loop (rec .ready none))
   rw [World.size_alloc,hw1] at h2
   exact h2
  have hdD:w.heap.size ∉ X.D.map Prod.fst:=fun hm=>by
   obtain ⟨e,he',hE⟩:=List.mem_map.1 hm
   obtain ⟨q,hq⟩:=hs.world
   have:=(Array.getElem?_eq_some_iff.1 (hq.res e he').1).1
   omega
  have hst2:=hst.perm (L':=L1++((w.heap.size+1,.loop (rec .ready none))::(w.heap.size,.deferred (some []))::Lk s0)) (List.perm_append_comm (l₁:=(w.heap.size+1,Obj.loop (rec .ready none))::(w.heap.size,Obj.deferred (some []))::Lk s0))
  obtain ⟨q,hq⟩:=hst2
  have hsz:w.heap.size+1<w1.heap.size:=(Array.getElem?_eq_some_iff.1 (hq.own.1 _ (List.mem_append_right _ (List.mem_cons_self ..))).1).1
  let It:List (List α)→Own→List Pers→Prop:=fun rem L Φ=>∃ s,I rem s∧L=(w.heap.size+1,.loop (rec .ready none))::(w.heap.size,.deferred (some []))::Lk s∧Φ=Φk s
  let Itx:Own→List Pers→Prop:=fun L Φ=>∃ c s,Jx c s∧L=(w.heap.size+1,.loop (rec .done (some c)))::(w.heap.size,.deferred (some []))::Lk s∧Φ=Φk s
  have hcall:=hit.2 (w.heap.size+1) w1 q It Itx _ (Φk s0) ⟨s0,h0,rfl,rfl⟩ (hΦ0 q hq.facts) (hΦ q hq.facts) hq.sub hq.own ?_
  ·refine A9w (hcall.mono fun e w' hx=>?_)
   obtain ⟨⟨v,rfl⟩,L',Φ',hI,hw'⟩:=hx
   have hw2:=StW.call (L0:=L1++((w.heap.size+1,.loop (rec .ready none))::(w.heap.size,.deferred (some []))::Lk s0)) (L2:=[]) hq (by simp) hw'
   rw [List.append_nil] at hw2
   have close:∀ (st:LoopState) (pe:Option Code) (s:σ),st≠.busy→L'=(w.heap.size+1,.loop (rec st pe))::(w.heap.size,.deferred (some []))::Lk s→Φ'=Φk s →
     (Instr.endLoop (w.heap.size+1)).run P w'=.ok pe (w'.putObj (w.heap.size+1) (.loop {rec st pe with state:=.exhausted})) ∧
     St n (X.wd ((w.heap.size,.deferred (some []))::X.D)) E (Lk s) (Φk s) {a with defers:=[B5q w.heap.size]++a.defers} (w'.putObj (w.heap.size+1) (.loop {rec st pe with state:=.exhausted})):=fun st pe s hst hL' hΦ'=>by
    subst hL' hΦ'
    obtain ⟨q2,hq2⟩:=hw2
    have hl:=(hq2.own.1 _ (List.mem_cons_self ..)).1
    simp only at hl
    have hrun:=run_endLoop (P:=P) hl (by rw [hrec];exact hst)
    rw [hrec] at hrun ⊢
    refine ⟨hrun,⟨hs.size,?_,hs.has,?_⟩⟩
    ·show [B5q w.heap.size]++a.defers=_
     rw [hs.defers]
     unfold Cx.marks Cx.wd
     simp only [hro];rfl
    ·have h3:StW X ((w.heap.size,.deferred (some []))::Lk s) (Φk s++Φ) (w'.putObj (w.heap.size+1) (.loop {rec st pe with state:=.exhausted})):=by
      have h4:=StW.reserve (X:=X) ⟨q2,hq2⟩
      have hnd:=hq2.own.2
      have h5:=StW.take (X:=X) (d:=(w.heap.size+1,.loop (rec st pe))) (ds:=X.D) ?_ (.loop {rec st pe with state:=.exhausted}) h4
      ·exact h5
      ·intro hm
       obtain ⟨e,he',hE⟩:=List.mem_map.1 hm
       obtain ⟨q3,hq3⟩:=hs.world
       have:=(Array.getElem?_eq_some_iff.1 (hq3.res e he').1).1
       simp only at hE;omega
     rw [hrec] at h3
     exact h3.reserve.foll fun p hp q hq=>hp q (List.mem_append_left _ hq)
   rcases hI with ⟨s,hI,hL',hΦ'⟩ | ⟨c,s,hI,hL',hΦ'⟩
   ·obtain ⟨hrun,hs'⟩:=close .ready none s (by simp) hL' hΦ'
    exact ⟨none,_,hrun,hafter _ s hdD hI _ _ hs'⟩
   ·obtain ⟨hrun,hs'⟩:=close .done (some c) s (by simp) hL' hΦ'
    have h6:=hstop _ c s hdD hI _ _ hs'
    have:(X.wd ((w.heap.size,.deferred (some []))::X.D)).rho=none:=hro
    rw [this] at h6
    exact ⟨some c,_,hrun,h6⟩
  ·-- one round
   rintro x rest L0 Φ0 qx kx hqx hqx2 ⟨s,hIs,rfl,rfl⟩ wr hr hfr hsr hor
   have hl:=(hor.1 _ (List.mem_cons_self ..)).1
   simp only at hl
   have hy:=run_yield (P:=P) (args:=#[.slice qx x.length kx]) hl (by rw [hrec];rfl)
   rw [hrec] at hy
   refine ⟨_,_,assign,body,hy,roundIn_of_wpIn trivial ?_⟩
   have hdist:w.heap.size+1≠w.heap.size:=by omega
   let M0:List Nat:=(w.heap.size+1)::w.heap.size::(Lk s).map Prod.fst
   let Y:Cx:=⟨wr,hr,M0,some (w.heap.size+1),[(w.heap.size+1,.loop (rec .ready none)),(w.heap.size,.deferred (some []))]⟩
   let Y':Cx:=⟨wr,hr,M0,some (w.heap.size+1),[(w.heap.size+1,.loop {rec .ready none with state:=.busy}),(w.heap.size,.deferred (some []))]⟩
   have hb:=hround x rest s qx kx hqx hqx2 hIs Y Y' (fun a₁ w₁=>∃ w₂,(Instr.beginRound (w.heap.size+1)).run P w₁=.ok () w₂∧body.wpIn (Fence.wide.inRound (w.heap.size+1)) 0 P
    (roundPost P (w.heap.size+1) fun e w'=>∃ b L' Φ',e=.returned (.bool b)∧(if b then It rest L' Φ' else Itx L' Φ')∧StW (cx wr hr M0) L' Φ' w') a₁ w₂) rfl ?_
   ·refine hb _ wr ⟨?_,rfl,?_,hr,⟨hfr,hsr,Hp.le_refl hr,fun b hb=>.inl hb,hor.sub ((List.sublist_cons_self _ _).trans (List.sublist_cons_self _ _)),fun e he=>.inl ?_,KeptBut.refl _ _,fun d hd=>?_⟩⟩
    ·have:a.tmps.size=n:=hs.size
     simp [this]
    ·have:=hs.has.put (d:=p) (by rw [hs.size];simpa [X5,Nat.blt_eq] using hpn) (.slice qx x.length kx)
     exact fun t v e=>by simpa [Act.put] using this t v e
    ·exact List.mem_cons_of_mem _ (List.mem_cons_of_mem _ (List.mem_map_of_mem he))
    ·have hnd:=hor.2
     simp only [List.map_cons,List.nodup_cons,List.mem_cons,not_or] at hnd
     simp only [Y,List.mem_cons,List.not_mem_nil,or_false] at hd
     rcases hd with rfl | rfl
     ·exact ⟨hl,(hor.1 _ (List.mem_cons_self ..)).2,fun e he hE=>hnd.1.2 (by simp only at hE;rw [← hE];exact List.mem_map_of_mem he),.inr (by simp [Y,M0])⟩
     ·have h1:=hor.1 _ (List.mem_cons_of_mem _ (List.mem_cons_self ..))
      exact ⟨h1.1,h1.2,fun e he hE=>hnd.2.1 (by simp only at hE;rw [← hE];exact List.mem_map_of_mem he),.inr (by simp [Y,M0])⟩
   ·-- the record turns to busy;the body;the record turns back
    intro E1 L3 Φ1 hJ a1 w2 hs1
    obtain ⟨q1,hq1⟩:=hs1.world
    have hl1:=(hq1.res (w.heap.size+1,.loop (rec .ready none)) (by simp [Y])).1
    simp only at hl1
    refine ⟨_,run_beginRound hl1 (by rw [hrec]),?_⟩
    have hst1:StW Y' L3 Φ1 (w2.putObj (w.heap.size+1) (.loop {rec .ready none with state:=.busy})):=by
     have:=StW.reput (X:=Y) (d:=w.heap.size+1) (o:=.loop (rec .ready none)) (o':=.loop {rec .ready none with state:=.busy}) (ds:=[(w.heap.size,.deferred (some []))]) (by simp) hs1.world
     exact this
    have hbody:=hJ a1 _ ⟨hs1.size,hs1.defers,hs1.has,hst1⟩
    refine Code.wpIn_mono (fun e a2 w3 hp=>?_) hbody
    have fin:∀ (jump:Option Code) (s':σ),StW Y' (Lk s') (Φk s') w3 →
      (Instr.endRound (w.heap.size+1) jump).run P w3=.ok (.bool jump.isNone) (w3.putObj (w.heap.size+1) (.loop (rec (if jump.isNone then .ready else .done) jump))) ∧
      StW (cx wr hr M0) ((w.heap.size+1,.loop (rec (if jump.isNone then .ready else .done) jump))::(w.heap.size,.deferred (some []))::Lk s') (Φk s') (w3.putObj (w.heap.size+1) (.loop (rec (if jump.isNone then .ready else .done) jump))):=fun jump s' h3=>by
     obtain ⟨q3,hq3⟩:=h3
     have hl3:=(hq3.res (w.heap.size+1,.loop {rec .ready none with state:=.busy}) (by simp [Y'])).1
     simp only at hl3
     have hrun:=run_endRound (P:=P) jump hl3
     refine ⟨by rw [hrec] at hrun ⊢;exact hrun,?_⟩
     have h4:=StW.reput (X:=Y') (d:=w.heap.size+1) (o:=.loop {rec .ready none with state:=.busy}) (o':=.loop (rec (if jump.isNone then .ready else .done) jump)) (ds:=[(w.heap.size,.deferred (some []))]) (by simp) ⟨q3,hq3⟩
     exact StW.unres (by simp) h4
    cases e with
    | normal =>
     obtain ⟨s',hI',h3⟩:=hp
     obtain ⟨hrun,h4⟩:=fin none s' h3
     exact ⟨_,_,hrun,true,_,_,rfl,⟨s',hI',rfl,rfl⟩,h4⟩
    | ret =>
     obtain ⟨s',hI',h3⟩:=hp
     obtain ⟨hrun,h4⟩:=fin (some .ret) s' h3
     exact ⟨_,_,hrun,false,_,_,rfl,⟨.ret,s',hI',rfl,rfl⟩,h4⟩
    | exit id =>
     obtain ⟨s',hI',h3⟩:=hp
     obtain ⟨hrun,h4⟩:=fin (some (.exit id)) s' h3
     exact ⟨_,_,hrun,false,_,_,rfl,⟨.exit id,s',hI',rfl,rfl⟩,h4⟩
    | goto t=>exact hp.elim
    | panic c=>exact hp.elim
    | outgrown=>exact hp.elim
end
end Go.Fen
set_option linter.unusedVariables false
set_option linter.unusedSimpArgs false
namespace Go.Fen
open Go Go.RowKit
structure Rwc (α:Type) where
 l:List α
 b:Bool
def B8 {α:Type} (c:α→List Value) (rs:List Rwq) (xss:List (Rwc α)):Pers:=G5 c (rs.map Rwq.s) (xss.map Rwc.l)
def D0 {α:Type} (rs:List Rwq) (xss:List (Rwc α)):Prop:=rs.length=xss.length∧C7 (rs.map Rwq.s) (xss.map Rwc.l)∧rs.map Rwq.b=xss.map Rwc.b
abbrev zwq:Rwq:=⟨⟨none,0,0⟩,false⟩
abbrev zwc {α:Type}:Rwc α:=⟨[],false⟩
theorem A4i {α β:Type} (f:α→β) (xs:List α) (k:Nat) (d:α):(xs.map f).getD k (f d)=f (xs.getD k d):=by
 simp only [List.getD_eq_getElem?_getD,List.getElem?_map]
 cases xs[k]?<;>rfl
section
variable {P:Program} {n:Nat} {X:Cx} {K:Act→World→Prop} {Q:Exit→Act→World→Prop} {E E':Env} {L L':Own} {Φ Φ':List Pers} {α:Type} {c:α→List Value} {rs rs':List Rwq} {xss xss':List (Rwc α)}
theorem A7w (ok:D0 rs xss) {k:Nat} (h:k<rs.length):(xss.getD k zwc).l.length≤(rs.getD k zwq).s.k∧(xss.getD k zwc).l.length≤9223372036854775807:=by
 have:=P8 ok.2.1 (k:=k) (d:=(⟨none,0,0⟩:Slc)) (by simpa using h)
 rw [← A4i Rwc.l,← A4i Rwq.s];exact this
theorem q_n (ok:D0 rs xss) {k:Nat} (h:k<rs.length):(rs.getD k zwq).s.n=(xss.getD k zwc).l.length:=by
 have:=Q7 ok.2.1 (k:=k) (d:=(⟨none,0,0⟩:Slc)) (by simpa using h)
 rw [show (⟨none,0,0⟩:Slc)=zwq.s from rfl,A4i Rwq.s,show ([]:List α)=(zwc:Rwc α).l from rfl,A4i Rwc.l] at this
 injection this
theorem C3j (ok:D0 rs xss) {k:Nat} (h:k<rs.length):(Value.slice (rs.getD k zwq).s.q (rs.getD k zwq).s.n (rs.getD k zwq).s.k)=.slice (rs.getD k zwq).s.q (xss.getD k zwc).l.length (rs.getD k zwq).s.k:=by rw [q_n ok h]
theorem D6r (ok:D0 rs xss) (k:Nat):(rs.getD k zwq).b=(xss.getD k zwc).b:=by
 rw [← A4i Rwq.b,← A4i Rwc.b,ok.2.2]
theorem B9h (ok:D0 rs xss) {k:Nat} (h:k<rs.length):(Value.agg #[.slice (rs.getD k zwq).s.q (rs.getD k zwq).s.n (rs.getD k zwq).s.k,.bool (rs.getD k zwq).b])=.agg #[.slice (rs.getD k zwq).s.q (xss.getD k zwc).l.length (rs.getD k zwq).s.k,.bool (xss.getD k zwc).b]:=by rw [q_n ok h,D6r ok k]
theorem B3x (ok:D0 rs xss) (j:Nat) (hj:Φ[j]?=some (B8 c rs xss)) {k:Nat} (h:k<rs.length):O7 Φ (sl c (rs.getD k zwq).s.q (xss.getD k zwc).l):=by
 have:=P9 ok.2.1 j hj (k:=k) (d:=(⟨none,0,0⟩:Slc)) (by simpa using h)
 rw [← A4i Rwc.l,← A4i Rwq.s];exact this
theorem A1o:O7 Φ (B8 c [] []):=P0
theorem D3k {r:Rwq} {x:Rwc α} (h1:O7 Φ (sl c r.s.q x.l)) (h2:O7 Φ (B8 c rs xss)):O7 Φ (B8 c (r::rs) (x::xss)):=A2j h1 h2
theorem C8y (hl:rs.length=xss.length) (h1:O7 Φ (B8 c rs xss)) (h2:O7 Φ (B8 c rs' xss')):O7 Φ (B8 c (rs++rs') (xss++xss')):=by
 unfold B8;rw [List.map_append,List.map_append];exact B4v (by simpa using hl) h1 h2
theorem D5u (k:Nat) {r:Rwq} {x:Rwc α} (h1:O7 Φ (B8 c rs xss)) (h2:O7 Φ (sl c r.s.q x.l)):O7 Φ (B8 c (rs.set k r) (xss.set k x)):=by
 unfold B8;rw [List.map_set,List.map_set];exact B3d k h1 h2
theorem D5o {m:Nat}:O7 Φ (B8 c (List.replicate m zwq) (List.replicate m zwc)):=by
 unfold B8;rw [List.map_replicate,List.map_replicate];exact B6p
theorem D0.none:D0 [] ([]:List (Rwc α)):=⟨rfl,C7.none,rfl⟩
theorem D0.cons {r:Rwq} {x:Rwc α} (h1:r.s.n=x.l.length∧r.s.n≤r.s.k∧x.l.length≤9223372036854775807) (hb:r.b=x.b) (h2:D0 rs xss):D0 (r::rs) (x::xss):=⟨by simp [h2.1],C7.cons h1 h2.2.1,by simp [hb,h2.2.2]⟩
theorem D0.append (h1:D0 rs xss) (h2:D0 rs' xss'):D0 (rs++rs') (xss++xss'):=⟨by simp [h1.1,h2.1],by rw [List.map_append,List.map_append];exact C7.append h1.2.1 h2.2.1,by rw [List.map_append,List.map_append,h1.2.2,h2.2.2]⟩
theorem D0.set (h:D0 rs xss) (k:Nat) {r:Rwq} {x:Rwc α} (hr:r.s.n=x.l.length∧r.s.n≤r.s.k∧x.l.length≤9223372036854775807) (hb:r.b=x.b):D0 (rs.set k r) (xss.set k x):=⟨by simp [h.1],by rw [List.map_set,List.map_set];exact C7.set h.2.1 k hr,by rw [List.map_set,List.map_set,h.2.2,hb]⟩
theorem D0.rep (m:Nat):D0 (List.replicate m zwq) (List.replicate m (zwc:Rwc α)):=⟨by simp,by rw [List.map_replicate,List.map_replicate];exact C7.rep m,by simp⟩
theorem C6u {o:Oper} {cl:Call} {T e by':Nat} {x y:Operand} {r:VR} {rs ys:List Rwq} {xss yss:List (Rwc α)} {q:Option Addr} {k m kk:Nat} {pre post:Own} (hT:ApTy P T e 2 by')
  (ho:o.op=.call cl) (hc:cl.callee=.builtin .append) (hca:cl.args=#[x,y]) (hct:cl.argTypes=#[T,T]) (hx:ev E x=some (vv r k)) (hk:k=xss.length) (hy:ev E y=some (.slice q m kk)) (hm:m=yss.length) (hL:L=pre++(vo B7 e r rs++post))
  (hq:O7 Φ (sl B7 q ys)) (h1:O7 Φ (B8 c rs xss)) (h2:O7 Φ (B8 c ys yss)) (ok1:D0 rs xss) (ok2:D0 ys yss) (hok:VOk 2 xss.length r) (hb:(xss.length+yss.length) * by'≤140737488355328) (h63:xss.length+yss.length≤9223372036854775807) :
  Tri P n X o E L Φ {r':VR // VOk 2 (xss++yss).length r'} (fun r'=>vv r'.1 (xss++yss).length) (fun r'=>pre++(vo B7 e r'.1 (rs++ys)++post)) (fun _=>B8 c (rs++ys) (xss++yss)::Φ):=by
 have e1:=ok1.1
 have e2:=ok2.1
 have e3:(rs++ys).length=(xss++yss).length:=by simp [e1,e2]
 intro ac w K Q hs hK
 refine A4o (f:=B7) (xs:=rs) (ys:=ys) hT (fun _=>rfl) (fun _=>rfl) ho hc hca hct (by rw [e1,← hk];exact hx) hy (by omega) hL hq (by rw [e1];exact hok) (by rw [e1,e2];exact hb) (by omega) ac w K Q hs fun r' w' hw=>?_
 have:=hK ⟨r'.1,e3▸r'.2⟩ w' (by
  obtain ⟨p,hp⟩:=hw
  exact ⟨p,{hp with facts:=fun z hz=>by rcases List.mem_cons.1 hz with rfl | hz;exact C8y e1 h1 h2 p hp.facts;exact hp.facts z hz}⟩)
 simp only [e3]
 exact this
theorem C6x {o:Oper} {T e by' l cc:Nat} {x y:Operand} (hT:ApTy P T e 2 by') (hz:((P.info? e).bind (·.zero)).map (·.cells)=some #[.slice none 0 0,.bool false])
  (ho:o.op=.makeSlice T x y) (hx:ev E x=some (.int .i64 (l:Int))) (hy:ev E y=some (.int .i64 (cc:Int))) (hlc:l≤cc) (hb:cc * by'≤140737488355328) (h63:cc≤9223372036854775807) :
  Tri P n X o E L Φ {r':VR // VOk 2 (List.replicate l (zwc:Rwc α)).length r'} (fun r'=>.slice (va r'.1.q) (List.replicate l (zwc:Rwc α)).length r'.1.k) (fun r'=>L++(vo B7 e r'.1 (List.replicate l zwq)++[])) (fun _=>Φ):=by
 have:=A9p (P:=P) (n:=n) (X:=X) (E:=E) (L:=L) (Φ:=Φ) (f:=B7) zwq hT hz (fun _=>rfl) ho hx hy hlc hb h63
 have e1:(List.replicate l (zwc:Rwc α)).length=(List.replicate l zwq).length:=by simp
 rw [e1]
 exact this
theorem A1s {t T sz b TT:Nat} {us:List Value} (hT:Ty P T sz true) (h:E.lookup t=some (.pointer (some ⟨b,0,none⟩))) (i:Nat) (hL:L[i]?=some (bx b us TT)) (hn:us.length=sz) :
  B3e P n X (.cell t T) E L Φ (.agg us.toArray):=I1 hT h i hL (by rw [List.drop_zero,← hn,List.take_length]) hn
end
end Go.Fen
set_option linter.unusedVariables false
set_option linter.unusedSimpArgs false
namespace Go.Fen
open Go Go.RowKit
def D0j (n:Nat) (ops:Array Oper) (T mo:Nat) (kd:TypeDesc) (E:Env):Nat→Nat→Nat→List MapEntry→Option (List MapEntry)
 | 0,_,_,es=>some es
 | k+1,i,clk,es=>match B4j n ops i E with
  | none=>none
  | some o=>match o.dst,o.op with
   | none,.insert T' (.tmp t) kk vv=>match Nat.beq T' T&&Nat.beq t mo,ev E kk,ev E vv with
    | true,some kv,some v=>match Instr.findNow kd kv es 0 with
     | some none=>D0j n ops T mo kd E k (i+1) (clk+1) (es++[⟨kv,v,clk⟩])
     | _=>none
    | _,_,_=>none
   | _,_=>none
section
variable {P:Program} {n:Nat} {X:Cx} {K:Act→World→Prop} {Q:Exit→Act→World→Prop} {E:Env} {Φ:List Pers}
theorem C4l {ops:Array Oper} {T kt e:Nat} {kd:TypeDesc} {mo b m:Nat} {es':List MapEntry} (hT:MapTy P T kt e kd) (hm:E.lookup mo=some (.map (some b))) (ix:Nat):∀ (k i clk:Nat) (es:List MapEntry) (L:Own),
  L[ix]?=some (b,.map es.toArray clk)→D0j n ops T mo kd E k i clk es=some es'→JI P n X ops (i+k) m K Q E (L.set ix (b,.map es'.toArray (clk+k))) Φ→JI P n X ops i (k+m) K Q E L Φ
 | 0,i,clk,es,L,hi,h,g=>by
  simp only [D0j,Option.some.injEq] at h
  subst h
  rw [Nat.zero_add]
  have:L.set ix (b,.map es.toArray (clk+0))=L:=by
   apply List.ext_getElem?
   intro j
   rw [List.getElem?_set]
   split
   ·rename_i hj
    subst hj
    split
    ·exact hi.symm
    ·rename_i hl;rw [List.getElem?_eq_none (by omega)]
   ·rfl
  rw [this] at g;exact g
 | k+1,i,clk,es,L,hi,h,g=>by
  unfold D0j at h
  split at h
  ·cases h
  ·rename_i o ho
   split at h
   ·rename_i T' t kk vv hd hop
    split at h
    ·rename_i kv v hb hk hv
     split at h
     ·rename_i hf
      rw [Bool.and_eq_true] at hb
      obtain rfl:=Nat.eq_of_beq_eq_true hb.1
      obtain rfl:=Nat.eq_of_beq_eq_true hb.2
      rw [Nat.add_right_comm]
      refine it ho (E5 hT (.inl hop) hm hk hv ix hi (by simpa using hf) rfl) fun _=>?_
      rw [hd]
      refine C4l hT hm ix k (i+1) (clk+1) (es++[⟨kv,v,clk⟩]) _ ?_ h ?_
      ·rw [List.getElem?_set_self (by have:=(List.getElem?_eq_some_iff.1 hi).1;exact this)];simp
      ·rw [List.set_set,show i+1+k=i+(k+1) by omega,show clk+1+k=clk+(k+1) by omega];exact g
     ·cases h
    ·cases h
   ·cases h
end
end Go.Fen
set_option linter.unusedVariables false
set_option linter.unusedSimpArgs false
namespace Go.Fen
open Go Go.RowKit Go.ChangeShapes
variable {P:Program}
theorem C8u {α:Type} {c:α→List Value} {p:Hp→α→Prop} {h:Hp} (rs:List Rwq) (hr:∀ r ∈ rs,C7n c p h r.s):∃ xss:List (Rwc α),D0 rs xss∧(B8 c rs xss).p h∧∀ x ∈ xss,∀ a ∈ x.l,p h a:=by
 obtain ⟨xs,h1,h2,h3⟩:=C6d (rs.map Rwq.s) (c:=c) (p:=p) (h:=h) fun r hm=>by
  obtain ⟨q,hq,rfl⟩:=List.mem_map.1 hm
  exact hr q hq
 have hl:rs.length=xs.length:=by simpa using h1.1
 have e1:(List.zipWith (fun l r=>(⟨l,r⟩:Rwc α)) xs (rs.map Rwq.b)).map Rwc.l=xs:=by
  apply List.ext_getElem
  ·simp [hl]
  ·intro i h1 h2;simp
 have e2:(List.zipWith (fun l r=>(⟨l,r⟩:Rwc α)) xs (rs.map Rwq.b)).map Rwc.b=rs.map Rwq.b:=by
  apply List.ext_getElem
  ·simp [hl]
  ·intro i h1 h2;simp
 refine ⟨List.zipWith (fun l r=>⟨l,r⟩) xs (rs.map Rwq.b),⟨by simp [hl],by rw [e1];exact h1,e2.symm⟩,by unfold B8;rw [e1];exact h2,fun x hx=>h3 x.l ?_⟩
 rw [← e1];exact List.mem_map_of_mem hx
theorem B1n {T S:TypeId} {α:Type} {c:α→List Value} {p:Hp→α→Prop} (hc:Cod P S Rwq B7 (fun _ _=>True) (fun h a=>C7n c p h a.s)) (hs:P.cellsOf S=2) (ht:P.underlying T=some (.slice S))
  {H:Type} {enc:TypeId×Value→H} {w:World} {base:Nat} {sp:Nat→Bool} {held:Bool} {fuel:Nat} {cs:List Value} {x:DataW H×List MemPlace} (h:DataW.trod enc P w base sp held fuel T cs=some x) :
  ∃ (q:Option Addr) (k:Nat) (rs:List Rwq) (xss:List (Rwc α)),cs=[.slice q xss.length k]∧xss.length≤k∧k≤9223372036854775807∧D0 rs xss∧(sl B7 q rs).p (A9e w)∧(B8 c rs xss).p (A9e w)∧∀ x ∈ xss,∀ a ∈ x.l,p (A9e w) a:=by
 obtain ⟨q,k,rs,rfl,h1,h2,h3,h4,_⟩:=C1m (c:=B7) (D:=fun _ _=>True) (p:=fun h a=>C7n c p h a.s) hc (sz:=2) (fun _=>rfl) hs (by decide) ht h
 obtain ⟨xss,g1,g2,g3⟩:=C8u rs h3
 exact ⟨q,k,rs,xss,by rw [g1.1],by rw [← g1.1];exact h1,h2,g1,h4,g2,g3⟩
end Go.Fen
set_option linter.unusedVariables false
set_option linter.unusedSimpArgs false
namespace Go.Proofs.YthcjfkljekdioaaGreatDoor
open Go Go.Fen
theorem B5m (w:World) :
  CallsD Tryz.prog 191 #[] (.panicking [{v:=A1k,recovered:=false}]) w fun e u' w' =>
   e=.returned (.tuple #[])∧u'=.panicking [{v:=A1k,recovered:=true}]∧w'=w:=by
 refine callsD_of_wpS Tryz.func191 rfl fun c₀ cs hu=>?_
 apply wpS_seq
 apply wpS_region
 simp [wpOpsS,go_sem,recoverD,hu,Tryz.ntmps191,Exit.thenS]
 apply wpS_seq
 apply wpS_region
 simp [wpOpsS,go_sem,recoverD,hu,Tryz.ntmps191,Exit.thenS]
 refine wpS_cond (t:=true) (by simp [Act.eval,Array.replicate]) ?_
 simp only [if_true]
 apply wpS_region
 simp [wpOpsS,go_sem,bodyPostS,results,Tryz.results191,Instr.typeAssert]
theorem C4z (w:World) :
  CallsD Tryz.prog 191 #[] .returning w fun e u' w'=>e=.returned (.tuple #[])∧u'=.returning∧w'=w:=by
 refine callsD_of_wpS Tryz.func191 rfl fun c₀ cs hu=>?_
 apply wpS_seq
 apply wpS_region
 simp [wpOpsS,go_sem,recoverD,hu,Tryz.ntmps191,Exit.thenS]
 apply wpS_seq
 apply wpS_region
 simp [wpOpsS,go_sem,recoverD,hu,Tryz.ntmps191,Exit.thenS]
 refine wpS_cond (t:=false) (by simp [Act.eval,Array.replicate]) ?_
 simp only [Bool.false_eq_true,if_false]
 refine wpS_of_wp (wp_skip ?_)
 cases c₀
 simp_all [bodyPostS,results,Tryz.results191]
def B0d (R:Option (List UInt8)):List UInt8×Bool:=match R with | some s=>(s,true) | none=>([],false)
theorem D2j {k:FuncId} {cap:List Value} {L0:Fen.Own} {Φ0:List Pers} (R:Option (List UInt8)) (h:B7u Tryz.prog k cap L0 Φ0 A1k R (fun s=>.string (bs s))) :
  Con Tryz.prog 123 [.func (.func k) #[] cap.toArray] L0 Φ0 Unit (fun _=>.tuple #[.string (bs (B0d R).1),.bool (B0d R).2]) (fun _=>[]) (fun _=>[]):=by
 refine ⟨⟨by kernel_rfl⟩,fun w h0 hq hs ho=>?_⟩
 have hc:=h.2 w h0 hq hs ho
 have hb:=h.1
 have hcf:∀ w:World,(callFunc k cap.toArray).run Tryz.prog w=.ok (.enter k cap.toArray) w:=fun w=>A0p hb _ w
 cases R with
 | none =>
  have hc':Calls Tryz.prog k cap.toArray w fun e w'=>e=.panicked [{v:=A1k,recovered:=false}]∧StW (cx w h0 (L0.map Prod.fst)) [] [] w':=hc.mono fun e w' ⟨h1,h2⟩=>⟨h2,h1⟩
  go_enter_defers Tryz.func123,Tryz.ntmps123
  go_wp2_with (refine hc'.mono ?_;rintro e w' ⟨rfl,hw⟩)
  refine leaves_cons (f:=191) (args:=#[]) (by simp) (by simp [go_sem]) ?_
  refine (B5m _).mono ?_
  rintro e u' w'' ⟨rfl,rfl,rfl⟩
  simpa [Leaves,settle,results,Tryz.results123,go_sem,B0d] using hw
 | some s =>
  have hc':Calls Tryz.prog k cap.toArray w fun e w'=>e=.returned (.string (bs s))∧StW (cx w h0 (L0.map Prod.fst)) [] [] w':=hc.mono fun e w' ⟨h1,h2⟩=>⟨h2,h1⟩
  go_enter_defers Tryz.func123,Tryz.ntmps123
  go_wp2_with (refine hc'.mono ?_;rintro e w' ⟨rfl,hw⟩)
  refine leaves_cons (f:=191) (args:=#[]) (by simp) (by simp [go_sem]) ?_
  refine (C4z _).mono ?_
  rintro e u' w'' ⟨rfl,rfl,rfl⟩
  simpa [Leaves,settle,results,Tryz.results123,go_sem,B0d] using hw
end Go.Proofs.YthcjfkljekdioaaGreatDoor
set_option linter.unusedVariables false
set_option linter.unusedSimpArgs false
namespace Go.Proofs.YthcjfkljekdioaaGreatDoor
open Go Go.Fen Go.RowKit
set_option maxHeartbeats 1000000 in
set_option maxRecDepth 100000 in
theorem B6a (b:Nat) (w:World) (h0:w.cell? ⟨b,0,none⟩=some (.pointer (some ⟨b,0,none⟩))) :
  Calls Tryz.prog 319 #[.pointer (some ⟨b,0,none⟩)] w fun e w'=>e=.returned (.tuple #[])∧w'=w:=by
 obtain ⟨j,hj,_⟩:=Option.map_eq_some_iff.1 (show (Tryz.prog.info? 271).map (·.size)=some 2 by kernel_rfl)
 go_enter Tryz.func319,Tryz.ntmps319
 go_wp2
 rw [Lib.run_neq_ptr_same w _ Tryz.underlying269 hj]
 go_wp2
 go_end0
 exact ⟨rfl,rfl⟩
set_option maxHeartbeats 1000000 in
set_option maxRecDepth 100000 in
theorem B5k (b:Nat) (w:World) (h0:w.cell? ⟨b,0,none⟩=some (.pointer none)) (hsh:w.shape? b=some (271,2)) (hfz:w.frozen? ⟨b,0,none⟩=false) :
  Calls Tryz.prog 319 #[.pointer (some ⟨b,0,none⟩)] w fun e w'=>e=.returned (.tuple #[])∧w'=w.setCell ⟨b,0,none⟩ (.pointer (some ⟨b,0,none⟩)):=by
 obtain ⟨j,hj,hjs⟩:=Option.map_eq_some_iff.1 (show (Tryz.prog.info? 271).map (·.size)=some 2 by kernel_rfl)
 go_enter Tryz.func319,Tryz.ntmps319
 go_wp2
 rw [Lib.run_to_unsafe w ⟨b,0,none⟩ Tryz.underlying269 Tryz.underlying359 hj (by rw [hjs];decide) hsh (Nat.zero_lt_succ 1)]
 simp only [Result.andThen]
 rw [Oper.upon_value]
 go_wp2
 rw [run_callFunc_extern Tryz.func366 (by kernel_rfl) (by kernel_rfl) (by kernel_rfl) (e:=Extern.AbiNoEscape.same) (by kernel_rfl)]
 rw [Lib.run_noEscape]
 simp only [Result.andThen]
 rw [Oper.upon_value]
 go_wp2
 rw [Lib.run_from_unsafe w ⟨b,0,none⟩ Tryz.underlying359 Tryz.underlying269 hj hsh (by kernel_rfl)]
 simp only [Result.andThen]
 rw [Oper.upon_value]
 go_wp2
 go_end0
 exact ⟨rfl,rfl⟩
theorem B2t {M:List Nat} (w:World):KeptBut M w w.drew:=⟨rfl,rfl,rfl,Nat.le_refl _,fun _ _ _=>rfl⟩
theorem C4u {M:List Nat} {a w:World} {g:Nat} (h:KeptBut M a w) (hg:g ∈ M) (n:Nat):KeptBut M a (w.freeze ⟨g,0,none⟩ n):=by
 refine h.trans ?_
 unfold World.freeze
 split
 ·exact KeptBut.refl M w
 ·exact ⟨rfl,rfl,rfl,by simp,fun k hk hm=>by
   simp only [Array.getElem?_modify]
   rw [if_neg (by rintro rfl;exact hm hg)]⟩
set_option maxHeartbeats 1000000 in
set_option maxRecDepth 100000 in
theorem C2y (b g cap:Nat) (p:Value) (cur:Array Value) (l:List UInt8) (w:World) (h0:l≠[]) (hbk:w.heap[b]?=some (.cells #[p,.slice (some ⟨g,0,none⟩) l.length cap] 271 (0,0))) (hg:w.heap[g]?=some (.cells cur 5 (0,0)))
  (hnc:l.length≤cap) (hcm:cap≤maxLen) (hcs:cur.size=cap) (hcells:∀ (j:Nat) (x:UInt8),l[j]?=some x→cur[j]?=some (Value.int .u8 (x.toNat:Int))) :
  Calls Tryz.prog 266 #[.pointer (some ⟨b,0,none⟩)] w fun e w'=>e=.returned (.string ⟨l.toArray⟩)∧KeptBut [b,g] w w':=by
 have hl0:l.length≠0:=by simpa using h0
 have c1:w.drew.cell? ⟨b,1,none⟩=some (.slice (some ⟨g,0,none⟩) l.length cap):=by
  have:w.drew.heap[b]?=some (.cells #[p,.slice (some ⟨g,0,none⟩) l.length cap] 271 (0,0)):=hbk
  rw [Lib.cell_of_heap this];rfl
 have hSD:(Builtin.unsafeSliceData_ #[239] 321 #[.slice (some ⟨g,0,none⟩) l.length cap]).run Tryz.prog w.drew=.ok (.pointer (some ⟨g,0,none⟩)) w.drew :=
  Lib.run_unsafeSliceData_row _ _ _ _ _ _ (by omega)
 have hUS:(Builtin.unsafeString_ #[321,3] 9 #[.pointer (some ⟨g,0,none⟩),.int .i64 l.length]).run Tryz.prog w.drew=.ok (.string ⟨l.toArray⟩) (w.drew.freeze ⟨g,0,none⟩ l.length):=by
  refine Lib.run_unsafeString_row w.drew 321 3 9 5 Tryz.underlying321 (by kernel_rfl) g cur.size (by have hg':w.drew.heap[g]?=some (.cells cur 5 (0,0)):=hg;simp [World.shape?,hg']) l h0 (by omega) (by unfold maxLen at hcm;omega) ?_
  intro j x hx
  have hg':w.drew.heap[g]?=some (.cells cur 5 (0,0)):=hg
  rw [Addr.add_lit,Nat.zero_add,Lib.cell_of_heap hg']
  exact hcells j x hx
 have mixed:Tryz.prog.follows .mixedOrders=true:=by kernel_rfl
 go_enter Tryz.func266,Tryz.ntmps266
 go_wp2
 go_region_o
 all_goals (go_wp2;go_ret;exact ⟨rfl,C4u (B2t w) (by simp) _⟩)
set_option maxHeartbeats 2000000 in
set_option maxRecDepth 100000 in
theorem C4s (b:Nat) (p:Value) (w:World) (hbk:w.heap[b]?=some (.cells #[p,.slice none 0 0] 271 (0,0))) :
  Calls Tryz.prog 266 #[.pointer (some ⟨b,0,none⟩)] w fun e w'=>e=.returned (.string ⟨#[]⟩)∧KeptBut [b] w w':=by
 have hUS:=fun (W:World) (q:Option Addr)=>Lib.run_unsafeString_none (P:=Tryz.prog) W 321 3 9 q
 have c1:w.drew.cell? ⟨b,1,none⟩=some (.slice none 0 0):=by
  have:w.drew.heap[b]?=some (.cells #[p,.slice none 0 0] 271 (0,0)):=hbk
  rw [Lib.cell_of_heap this];rfl
 have hSD:(Builtin.unsafeSliceData_ #[239] 321 #[.slice none 0 0]).run Tryz.prog w.drew=.ok (.pointer none) w.drew:=rfl
 have mixed:Tryz.prog.follows .mixedOrders=true:=by kernel_rfl
 go_enter Tryz.func266,Tryz.ntmps266
 go_wp2
 go_region_o
 all_goals (go_wp2;go_ret;exact ⟨rfl,B2t w⟩)
set_option maxHeartbeats 2000000 in
set_option maxRecDepth 100000 in
theorem B8i (b g:Nat) (p:Value) (cur:Array Value) (w:World) (hbk:w.heap[b]?=some (.cells #[p,.slice (some ⟨g,0,none⟩) 0 0] 271 (0,0))) (hg:w.heap[g]?=some (.cells cur 5 (0,0))) :
  Calls Tryz.prog 266 #[.pointer (some ⟨b,0,none⟩)] w fun e w'=>e=.returned (.string ⟨#[]⟩)∧KeptBut [b,g] w w':=by
 have hUS:=fun (W:World) (q:Option Addr)=>Lib.run_unsafeString_none (P:=Tryz.prog) W 321 3 9 q
 have hlt:b<w.heap.size:=by
  rcases Nat.lt_or_ge b w.heap.size with h' | h'
  ·exact h'
  ·simp [Array.getElem?_eq_none h'] at hbk
 have c1:w.drew.cell? ⟨b,1,none⟩=some (.slice (some ⟨g,0,none⟩) 0 0):=by
  have:w.drew.heap[b]?=some (.cells #[p,.slice (some ⟨g,0,none⟩) 0 0] 271 (0,0)):=hbk
  rw [Lib.cell_of_heap this];rfl
 have hSD:(Builtin.unsafeSliceData_ #[239] 321 #[.slice (some ⟨g,0,none⟩) 0 0]).run Tryz.prog w.drew=.ok (.pointer (some ⟨w.drew.heap.size,0,none⟩)) (w.drew.alloc (.view ⟨g,0,none⟩ 5)) :=
  Lib.run_unsafeSliceData_zero w.drew _ _ 5 Tryz.underlying321 ⟨g,0,none⟩ 0 (5,cur.size) (by have hg':w.drew.heap[g]?=some (.cells cur 5 (0,0)):=hg;simp [World.shape?,hg'])
 have c2:(w.drew.alloc (.view ⟨g,0,none⟩ 5)).cell? ⟨b,1,none⟩=some (.slice (some ⟨g,0,none⟩) 0 0):=by
  have:(w.drew.alloc (.view ⟨g,0,none⟩ 5)).heap[b]?=_:=(Lib.alloc_old w.drew _ b hlt).trans hbk
  rw [Lib.cell_of_heap this];rfl
 have c3:(w.alloc (.view ⟨g,0,none⟩ 5)).drew.cell? ⟨b,1,none⟩=some (.slice (some ⟨g,0,none⟩) 0 0):=c2
 have c0:w.cell? ⟨b,1,none⟩=some (.slice (some ⟨g,0,none⟩) 0 0):=c1
 have mixed:Tryz.prog.follows .mixedOrders=true:=by kernel_rfl
 go_enter Tryz.func266,Tryz.ntmps266
 go_wp2
 go_region_o
 all_goals (go_wp2;go_ret;exact ⟨rfl,(B2t w).alloc _⟩)
set_option maxHeartbeats 2000000 in
set_option maxRecDepth 100000 in
theorem C3e (b g cap:Nat) (p:Value) (w:World) (hc0:cap≠0) (hbk:w.heap[b]?=some (.cells #[p,.slice (some ⟨g,0,none⟩) 0 cap] 271 (0,0))) :
  Calls Tryz.prog 266 #[.pointer (some ⟨b,0,none⟩)] w fun e w'=>e=.returned (.string ⟨#[]⟩)∧KeptBut [b,g] w w':=by
 have hUS:=fun (W:World) (q:Option Addr)=>Lib.run_unsafeString_none (P:=Tryz.prog) W 321 3 9 q
 have c1:w.drew.cell? ⟨b,1,none⟩=some (.slice (some ⟨g,0,none⟩) 0 cap):=by
  have:w.drew.heap[b]?=some (.cells #[p,.slice (some ⟨g,0,none⟩) 0 cap] 271 (0,0)):=hbk
  rw [Lib.cell_of_heap this];rfl
 have hSD:(Builtin.unsafeSliceData_ #[239] 321 #[.slice (some ⟨g,0,none⟩) 0 cap]).run Tryz.prog w.drew=.ok (.pointer (some ⟨g,0,none⟩)) w.drew :=
  Lib.run_unsafeSliceData_row _ _ _ _ _ _ hc0
 clear hc0
 have mixed:Tryz.prog.follows .mixedOrders=true:=by kernel_rfl
 go_enter Tryz.func266,Tryz.ntmps266
 go_wp2
 go_region_o
 all_goals (go_wp2;go_ret;exact ⟨rfl,B2t w⟩)
theorem st0 {L0:Fen.Own} {h:Hp} {w:World} (hs:h.sub w) (ho:A0i L0 h w):StW (cx w h (L0.map Prod.fst)) L0 [] w :=
 ⟨h,⟨fun q hq=>(by cases hq),hs,Hp.le_refl _,fun b hb=>.inl hb,ho,fun e he=>.inl (List.mem_map_of_mem he),KeptBut.refl _ _,fun d hd=>by cases hd⟩⟩
theorem C3r (b:Nat) (v:Value):Con Tryz.prog 319 [pt b 0] [bx b [.pointer none,v] 271] [] Unit (fun _=>.tuple #[]) (fun _=>[bx b [pt b 0,v] 271]) (fun _=>[]):=by
 refine ⟨⟨by kernel_rfl⟩,fun w h hq hs ho=>?_⟩
 have hb:=(ho.1 _ (List.mem_singleton.2 rfl)).1
 simp only at hb
 have hx:=st0 hs ho
 refine (B5k b w (by rw [Lib.cell_of_heap hb];rfl) (by simp [World.shape?,hb]) (Lib.frozen_of_heap hb 0)).mono ?_
 rintro e w' ⟨rfl,rfl⟩
 refine ⟨(),rfl,?_⟩
 have hset:w.setCell ⟨b,0,none⟩ (.pointer (some ⟨b,0,none⟩))=w.setRow b #[pt b 0,v]:=by
  have:=setRow_heap w b #[Value.pointer none,v] #[pt b 0,v] 271 (0,0) hb
  simp only [World.setCell,World.setRow]
  congr 1
  apply Array.ext_getElem?
  intro i
  simp only [Array.getElem?_modify]
  split
  ·rename_i h1;subst h1;simp [hb]
  ·rfl
 rw [hset]
 exact hx.set (i:=0) rfl (setRow_heap w b _ _ 271 (0,0) hb) (fun k hk=>setRow_other w b k _ hk) rfl rfl rfl (by simp)
theorem C2z (b:Nat) (v:Value):Con Tryz.prog 319 [pt b 0] [bx b [pt b 0,v] 271] [] Unit (fun _=>.tuple #[]) (fun _=>[bx b [pt b 0,v] 271]) (fun _=>[]):=by
 refine ⟨⟨by kernel_rfl⟩,fun w h hq hs ho=>?_⟩
 have hb:=(ho.1 _ (List.mem_singleton.2 rfl)).1
 simp only at hb
 have hx:=st0 hs ho
 refine (B6a b w (by rw [Lib.cell_of_heap hb];rfl)).mono ?_
 rintro e w' ⟨rfl,rfl⟩
 exact ⟨(),rfl,hx⟩
theorem D2t {L0:Fen.Own} {h:Hp} {w w':World} (hs:h.sub w) (ho:A0i L0 h w) (hk:KeptBut (L0.map Prod.fst) w w'):StW (cx w h (L0.map Prod.fst)) [] [] w':=by
 refine ⟨h,⟨fun q hq=>(by cases hq),fun b o e=>?_,Hp.le_refl _,fun b hb=>.inl hb,⟨fun e he=>(by cases he),List.nodup_nil⟩,fun e he=>(by cases he),hk,fun d hd=>by cases hd⟩⟩
 have hne:b ∉ L0.map Prod.fst:=fun hm=>by
  obtain ⟨e',he',rfl⟩:=List.mem_map.1 hm
  rw [(ho.1 e' he').2] at e
  cases e
 rw [hk.block b (Hp.lt hs e) hne]
 exact hs b o e
theorem C7v (b:Nat) (p:Value) (l:List UInt8) (r:VR) (hok:VOk 1 l.length r):Con Tryz.prog 266 [pt b 0] (bx b [p,vv r l.length] 271::(vo cU8 5 r l++[])) [] Unit (fun _=>sv l) (fun _=>[]) (fun _=>[]):=by
 refine ⟨⟨by kernel_rfl⟩,fun w h hq hs ho=>?_⟩
 have hb:=(ho.1 (bx b [p,vv r l.length] 271) (by simp)).1
 simp only at hb
 have fin:∀ {R:Ending→World→Prop},(∀ e w',(e=.returned (.string ⟨l.toArray⟩)∧KeptBut ((bx b [p,vv r l.length] 271::(vo cU8 5 r l++[])).map Prod.fst) w w')→R e w')→(Calls Tryz.prog 266 #[pt b 0] w fun e w'=>e=.returned (.string ⟨l.toArray⟩)∧KeptBut ((bx b [p,vv r l.length] 271::(vo cU8 5 r l++[])).map Prod.fst) w w')→Calls Tryz.prog 266 #[pt b 0] w R:=fun h1 h2=>h2.mono h1
 refine fin (fun e w' ⟨he,hk⟩=>⟨(),he,D2t hs ho hk⟩) ?_
 obtain ⟨q,k,j⟩:=r
 cases q with
 | none =>
  have h0:l.length=0∧k=0:=hok
  have hl:l=[]:=List.eq_nil_of_length_eq_zero h0.1
  obtain ⟨_,hk⟩:=h0
  subst hl hk
  exact C4s b p w hb
 | some g =>
  have hok':l.length * 1+j.length=k * 1∧l.length≤k∧k≤maxLen:=hok
  have hg:=(ho.1 (bx g (l.flatMap cU8++j) 5) (by simp [vo])).1
  simp only at hg
  have hfl:(l.flatMap cU8).length=l.length:=by rw [E2 (sz:=1) (fun _=>rfl)];omega
  cases l with
  | nil =>
   by_cases hk:k=0
   ·subst hk
    exact B8i b g p _ w hb hg
   ·exact C3e b g k p w hk hb
  | cons x l =>
   refine C2y b g k p _ (x::l) w (by simp) hb hg hok'.2.1 hok'.2.2 (by simp only [List.size_toArray,List.length_append,hfl];omega) ?_
   intro i y hy
   have hi:=(List.getElem?_eq_some_iff.1 hy).1
   rw [List.getElem?_toArray,List.getElem?_append_left (by rw [hfl];exact hi),B9v _ _ hi]
   rw [List.getElem?_eq_getElem hi] at hy
   simp only [Option.some.injEq] at hy
   rw [hy]
theorem C3u (b:Nat) (v:Value) (pz:Option Addr) (h:pz=none∨pz=some ⟨b,0,none⟩):Con Tryz.prog 319 [pt b 0] [bx b [.pointer pz,v] 271] [] Unit (fun _=>.tuple #[]) (fun _=>[bx b [pt b 0,v] 271]) (fun _=>[]):=by
 rcases h with rfl | rfl
 ·exact C3r b v
 ·exact C2z b v
end Go.Proofs.YthcjfkljekdioaaGreatDoor
set_option linter.unusedVariables false
set_option linter.unusedSimpArgs false
namespace Go.Fen
open Go Go.RowKit Go.Sort Go.Proofs
set_option maxRecDepth 100000
section
variable {P:Program}
end
end Go.Fen
namespace Go.Proofs.YthcjfkljekdioaaGreatDoor
open Go Go.Fen Go.RowKit Go.Sort
set_option maxRecDepth 100000
end Go.Proofs.YthcjfkljekdioaaGreatDoor
