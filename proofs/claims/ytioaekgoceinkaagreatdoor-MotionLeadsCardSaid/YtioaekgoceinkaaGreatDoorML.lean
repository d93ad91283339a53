/- Proved: Running the best candidate on a screen moves its cursor to the target without Wrap, and changes nothing else. -/
import Derived.Test.YtioaekgoceinkaaGreatDoorCards
import Derived.Test.YtioaekgoceinkaaGreatDoorTie
import Derived.Deep.DeepHandedRow
import Derived.SevenTiedAt
import Derived.Test.YtioaekgoceinkaaGreatDoorMC1
import Derived.Test.YtioaekgoceinkaaGreatDoorMQ4
import Derived.Test.YtioaekgoceinkaaGreatDoorMLG
import Derived.Test.YtioaekgoceinkaaGreatDoorMLK
set_option linter.unusedVariables false
set_option linter.unusedSimpArgs false
set_option linter.unnecessarySimpa false
namespace Go.Proofs.YtioaekgoceinkaaGreatDoor
open Go Go.Fen
open Go.RowKit Go.ChangeShapes Go.ChangeAt Go.WideShapes
set_option maxRecDepth 100000 in
set_option maxHeartbeats 1000000 in
theorem B4z (H:Type) (enc:TypeId×Value→H) (W:World) (z:Nat) (args:Array Value) (ds gs:List (DataW H)) (k:List MemPlace)
  (f:∀ (j:Nat) t v,Tryz.f3.params[j]?=some t→args[j]?=some v→Value.okWide Tryz.prog W .any z t v)
  (hW:DataW.Whole enc Tryz.prog Tryz.f3.params.toList Rows.motionLeadsSpec.vars false W args.toList ds gs k) (hL:laidMetH Tryz.prog Rows.motionLeadsRow.laid W) :
  Calls Tryz.prog 3 args W fun e W'=>∃ v,e=.returned v∧Rows.motionLeadsSpec.post enc Tryz.prog Tryz.f3 false true false false W args v W':=by
 have a7:=hW
 obtain ⟨p,q,ap,hV,rfl,b7,bj⟩:=hW
 have ak:gs=[]:=by
  cases gs with
  | nil=>rfl
  | cons g gs=>exact hV.elim
 subst ak
 have hA:DataW.TrodAll enc Tryz.prog W 0 (fun _=>true) true Tryz.f3.params.toList args.toList ds p:=ap
 rw [Tryz.params3] at hA f
 obtain ⟨v0,b8,d0,bd,p0,q0,bk,ab,bu,t0,r0⟩:=trodAll_cons hA
 obtain ⟨v1,b2,d1,bw,p1,q1,ai,ao,bi,t1,r1⟩:=trodAll_cons r0
 obtain ⟨v2,b3,d2,bn,p2,q2,al,am,bg,t2,r2⟩:=trodAll_cons r1
 obtain ⟨v3,b9,d3,bz,p3,q3,aa,a8,c1,t3,r3⟩:=trodAll_cons r2
 obtain ⟨en,dn,pn⟩:=trodAll_nil r3
 subst en dn
 subst aa a8
 subst al am
 subst ai ao
 subst ab
 obtain rfl:args=#[v0,v1,v2,v3]:=by cases args;simp_all
 obtain ⟨bc,t0⟩:=t0
 obtain ⟨a0,e0,-,an⟩:=(A4m Tryz.underlying3) t0
 obtain rfl:v0=iv a0:=by have:=f 0 3 v0 rfl rfl;cases v0<;>simp_all [Value.cells,Value.okWide,Cell.okWide,Cell.ok,Tryz.underlying3,H8,N8,E2y,cU8]
 obtain ⟨b6,t1⟩:=t1
 obtain ⟨a1,e1,-,af⟩:=(A4m Tryz.underlying3) t1
 obtain rfl:v1=iv a1:=by have:=f 1 3 v1 rfl rfl;cases v1<;>simp_all [Value.cells,Value.okWide,Cell.okWide,Cell.ok,Tryz.underlying3,H8,N8,E2y,cU8]
 have k2:=f 2 23 v2 rfl rfl
 simp only [Value.okWide,Tryz.underlying23] at k2
 obtain ⟨c2,rfl,-,-⟩:=k2
 obtain ⟨bq,t2⟩:=t2
 obtain ⟨a2,e2,-,pp2⟩:=E4a t2
 have aj:c2=_:=Array.ext' (show c2.toList=(List.toArray _).toList from e2)
 subst aj
 have k3:=f 3 25 v3 rfl rfl
 simp only [Value.okWide,Tryz.underlying25] at k3
 obtain ⟨c3,rfl,-,-⟩:=k3
 obtain ⟨bo,t3⟩:=t3
 obtain ⟨a3,e3,-,pp3⟩:=E3n t3
 have a9:c3=_:=Array.ext' (show c3.toList=(List.toArray _).toList from e3)
 subst a9
 have d:laidMet Tryz.prog Rows.motionLeadsRow.laid W:=hL
 have s:(sl B7 (some ⟨0,0,none⟩) D2q).p (C9o W):=B2j (P:=Tryz.prog) (g:=0) (T:=145) (D:=D9u) (p:=fun _ a=>E1r a) (List.mem_of_getElem? (i:=6) rfl) okl okl D7z (sz:=2) (fun _=>rfl) okl Tryz.underlying145 okl C8h C4i okl d
 have m:(sl B7 (some ⟨1,0,none⟩) E0a).p (C9o W):=B2j (P:=Tryz.prog) (g:=1) (T:=147) (D:=D9u) (p:=fun _ a=>E1r a) (List.mem_of_getElem? (i:=7) rfl) okl okl D7z (sz:=2) (fun _=>rfl) okl Tryz.underlying147 okl C8h C4i okl d
 have u:(sl H8 (some ⟨4,0,none⟩) E2n).p (C9o W):=B2j (P:=Tryz.prog) (g:=4) (T:=345) (D:=B7n) (p:=fun _=>B5s) (List.mem_of_getElem? (i:=4) rfl) okl okl (A4m Tryz.underlying3) (sz:=1) (fun _=>rfl) okl Tryz.underlying345 okl D4r D3d okl d
 have l:(sl cU8 (some ⟨8,0,none⟩) D5q).p (C9o W):=B2j (P:=Tryz.prog) (g:=8) (T:=360) (D:=dU8) (p:=fun _ _=>True) (List.mem_of_getElem? (i:=2) rfl) okl okl (E2l Tryz.underlying5) (sz:=1) (fun _=>rfl) okl Tryz.underlying360 okl D8e D5l okl d
 have r:(E0c 5 B2w).p (C9o W):=D3b▸D8h (P:=Tryz.prog) (g:=5) (T:=353) (c:=E0w) (D:=D9e) (p:=fun _ _=>True) (List.mem_of_getElem? (i:=3) rfl) okl okl (D9v Tryz.underlying329) (sz:=1) (fun _=>rfl) okl Tryz.underlying353 okl D4l D2l (tab:=Lib.pow10Tab) okl d
 have n:(sl H7 (some ⟨3,0,none⟩) E3j).p (C9o W):=B2j (P:=Tryz.prog) (g:=3) (T:=276) (D:=E1g) (p:=fun _ a=>E3a a) (List.mem_of_getElem? (i:=5) rfl) okl okl E2j (sz:=3) (fun _=>rfl) okl Tryz.underlying276 okl D4h D2d okl d
 have y:=(B6r a0 a1 a2 a3 true (C3e _ _ _ _)).2 W (C9o W) (all_cons s (all_cons m (all_cons u (all_cons l (all_cons r (all_cons n all_nil)))))) (fun b o h=>h) ⟨(fun e he=>by cases he),List.nodup_nil⟩
 refine y.mono fun e W' ⟨x,he,w⟩=>⟨_,he,?_⟩
 obtain ⟨h',w⟩:=w
 exact D5j okl okl rfl Tryz.underlying4 rfl a7 (KeptBut.below w.kept) rfl
noncomputable def A6i (a:Os):World :=
 {World.holding Tryz.prog a ⟨#[],#[],[]⟩ with heap:=(B4u (B4u (B4u (B4u (B4u (B4u (B4u (B4u (World.holding Tryz.prog a ⟨#[],#[],[]⟩).heap 2 (A3n Rows.laid_fenestra_sets_signs)) 7 (A3n Rows.laid_math_bits_deBruijn32tab)) 8 (A3n Rows.laid_math_bits_deBruijn64tab)) 5 (A3n Rows.laid_internal_strconv_uint64pow10)) 4 (A3n Rows.laid_fenestra_color_named)) 3 (A3n Rows.laid_fenestra_sgr_attrs)) 0 (A3n Rows.laid_fenestra_width_marks)) 1 (A3n Rows.laid_fenestra_width_wides))}
set_option maxRecDepth 100000 in
theorem B4n (a:Os):laidMet Tryz.prog Rows.motionLeadsRow.laid ((A6i a).forCall (fun _ _=>0) ⟨#[],#[(.int .i64 0:Value),(.int .i64 0:Value),(.agg #[.int .i64 0,.int .i64 0,.bool false]:Value),(.agg #[.int .i64 0,.int .i64 0]:Value)],[]⟩).memory :=
 laidMet_of_run' 8 okl okl
set_option maxRecDepth 100000 in
theorem B9d (a:Os) {H:Type} (enc:TypeId×Value→H):DataW.whole enc Tryz.prog ((A6i a).forCall (fun _ _=>0) ⟨#[],#[(.int .i64 0:Value),(.int .i64 0:Value),(.agg #[.int .i64 0,.int .i64 0,.bool false]:Value),(.agg #[.int .i64 0,.int .i64 0]:Value)],[]⟩).memory Tryz.f3.params.toList Rows.motionLeadsSpec.vars false (#[(.int .i64 0:Value),(.int .i64 0:Value),(.agg #[.int .i64 0,.int .i64 0,.bool false]:Value),(.agg #[.int .i64 0,.int .i64 0]:Value)]:Array Value).toList 8=some ([.lit (.int .i64 0),.lit (.int .i64 0),.agg [.lit (.int .i64 0),.lit (.int .i64 0),.lit (.bool false)],.agg [.lit (.int .i64 0),.lit (.int .i64 0)]],[],[])∧Rows.uptoSmall H (([.lit (.int .i64 0),.lit (.int .i64 0),.agg [.lit (.int .i64 0),.lit (.int .i64 0),.lit (.bool false)],.agg [.lit (.int .i64 0),.lit (.int .i64 0)]]:List (DataW H))++[])=true :=
 ⟨by kernel_rfl,by kernel_rfl⟩
set_option maxRecDepth 100000 in
theorem B7r (d:Os) (a:d.Started) (H:Type) (enc:TypeId×Value→H) (F:Stop.Interp) :
  ReturnsInHanded {} Tryz.checked d 3 .any ((OpenSpec.ofChange Rows.motionLeadsSpec).preRow enc Tryz.prog Tryz.f3 Rows.motionLeadsRow.domain false Rows.motionLeadsRow.laid) (((OpenSpec.ofChange Rows.motionLeadsSpec).at F).post enc Tryz.prog Tryz.f3 false true false false):=by
 obtain ⟨g,m⟩:=B9d d enc
 refine returnsInHanded_of_row (C:=Tryz.checked) (s:=OpenSpec.ofChange Rows.motionLeadsSpec) (show ownKnob Tryz.prog.godebug=none by kernel_rfl) a okl Tryz.func3
  (witness_row_at (enc:=enc) (C:=Tryz.checked) false (A6i d) #[(.int .i64 0:Value),(.int .i64 0:Value),(.agg #[.int .i64 0,.int .i64 0,.bool false]:Value),(.agg #[.int .i64 0,.int .i64 0]:Value)] rfl okl okl okl
   (OpenSpec.preRow_of_cond 8 g okl (fun k h=>by cases h) okl (B4n d))) ?_
 intro W c args ds i b e l _ f _ j _ _
 exact B4z H enc W c args ds i b e l j
theorem C0n:Rows.MotionLeadsSaid :=
 OpenClaim.holds_of_cond 3 Tryz.f3 rfl rfl rfl rfl rfl rfl rfl ⟨rfl,rfl,rfl,rfl,rfl⟩ rfl rfl rfl rfl rfl okl Tryz.func3 B8d
  (of_decide_eq_true okl) (by unfold Func.isWrapper;first|(rw [if_pos (by decide +kernel)];kernel_rfl)|(rw [if_neg (by decide +kernel)];exact ⟨rfl,rfl⟩))
  (fun b a H enc _ F=>by rw [OpenClaim.pre_eq_preRow];exact B7r b a H enc F)
theorem B9h (f:FuncId) (b:Func) (d:Tryz.pinned.checked.prog.funcNamed Rows.motionLeadsRow.func=some f) (c:Tryz.pinned.checked.prog.funcs[f]?=some b) :
  true=Tryz.pinned.checked.prog.looks []∧∀ (j:Nat) t,b.params[j]?=some t→Tryz.pinned.checked.prog.wantsStandIn t=false:=by
 obtain rfl:f=3:=Option.some.inj ((show Tryz.prog.funcNamed Rows.motionLeadsRow.func=some 3 by kernel_rfl).symm.trans d) |>.symm
 obtain rfl:b=Tryz.f3:=(Option.some.inj (Tryz.func3.symm.trans c)).symm
 refine ⟨by kernel_rfl,fun j t e=>?_⟩
 have a:(Tryz.f3.params.toList.all fun t=>!(Tryz.pinned.checked.prog.wantsStandIn t))=true:=by kernel_rfl
 have:=List.all_eq_true.1 a t (by simpa using Array.mem_of_getElem? e)
 simpa using this
theorem motionLeads_card:Rows.MotionLeadsCardSaid :=
 Claim7.holds_tied_plain_at .later [] _ _ _ _ C0n (fun _ h=>by cases h) okl (fun _ h=>by cases h) motionLeads_row_tie rfl ⟨rfl,rfl⟩ okl rfl B9h C1i
end Go.Proofs.YtioaekgoceinkaaGreatDoor
