/- Proved: frame.Blank returns the blank frame of any valid size, and ErrArg otherwise (fenestralaw23.FrameBlanks), for every input, no condition -/
import Derived.Test.YthcjfkljekdioaaGreatDoorCards
import Derived.Test.YthcjfkljekdioaaGreatDoorTie
import Derived.Deep.DeepHandedRow
import Derived.SevenTiedAt
import Derived.Test.YthcjfkljekdioaaGreatDoorMC1
import Derived.Test.YthcjfkljekdioaaGreatDoorMX1
import Derived.Test.YthcjfkljekdioaaGreatDoorMLG
import Derived.Test.YthcjfkljekdioaaGreatDoorMLK
set_option linter.unusedVariables false
set_option linter.unusedSimpArgs false
set_option linter.unnecessarySimpa false
namespace Go.Proofs.YthcjfkljekdioaaGreatDoor
open Go Go.Fen
open Go.RowKit Go.ChangeShapes Go.ChangeAt Go.WideShapes
set_option maxRecDepth 100000 in
set_option maxHeartbeats 1000000 in
theorem A4r (H:Type) (enc:TypeId×Value→H) (W:World) (base:Nat) (args:Array Value) (ds gs:List (DataW H)) (before:List MemPlace)
  (hval:∀ (j:Nat) t v,Tryz.f4.params[j]?=some t→args[j]?=some v→Value.okWide Tryz.prog W .any base t v)
  (hW:DataW.Whole enc Tryz.prog Tryz.f4.params.toList Rows.frameBlanksSpec.vars false W args.toList ds gs before) (hL:laidMetH Tryz.prog Rows.frameBlanksRow.laid W) :
  Calls Tryz.prog 4 args W fun e W'=>∃ v,e=.returned v∧Rows.frameBlanksSpec.post enc Tryz.prog Tryz.f4 false true false false W args v W':=by
 have hW0:=hW
 obtain ⟨p,q,hA0,hV,rfl,hfz,hnd⟩:=hW
 have hgs:gs=[]:=by
  cases gs with
  | nil=>rfl
  | cons g gs=>exact hV.elim
 subst hgs
 have hA:DataW.TrodAll enc Tryz.prog W 0 (fun _=>true) true Tryz.f4.params.toList args.toList ds p:=hA0
 rw [Tryz.params4] at hA hval
 obtain ⟨v0,vs0,d0,ds0,p0,q0,ha0,hd0,hp0,t0,r0⟩:=trodAll_cons hA
 obtain ⟨v1,vs1,d1,ds1,p1,q1,ha1,hd1,hp1,t1,r1⟩:=trodAll_cons r0
 obtain ⟨en,dn,pn⟩:=trodAll_nil r1
 subst en dn
 subst ha1 hd1
 subst hd0
 obtain rfl:args=#[v0,v1]:=by cases args;simp_all
 obtain ⟨fu0,t0⟩:=t0
 obtain ⟨a0,e0,-,hh0_0⟩:=(B0g Tryz.underlying3) t0
 obtain rfl:v0=iv a0:=by have:=hval 0 3 v0 rfl rfl;cases v0<;>simp_all [Value.cells,Value.okWide,Cell.okWide,Cell.ok,Tryz.underlying3,Q2,F8,C5r,cU8]
 obtain ⟨fu1,t1⟩:=t1
 obtain ⟨a1,e1,-,hh1_0⟩:=(B0g Tryz.underlying3) t1
 obtain rfl:v1=iv a1:=by have:=hval 1 3 v1 rfl rfl;cases v1<;>simp_all [Value.cells,Value.okWide,Cell.okWide,Cell.ok,Tryz.underlying3,Q2,F8,C5r,cU8]
 have hlaid:laidMet Tryz.prog Rows.frameBlanksRow.laid W:=hL
 have htab0:(sl B9 (some ⟨0,0,none⟩) B1r).p (C1u W):=B2s (P:=Tryz.prog) (g:=0) (T:=165) (D:=C1w) (p:=fun _ a=>C4a a) (List.mem_of_getElem? (i:=5) rfl) (by kernel_rfl) (by kernel_rfl) C0a (sz:=2) (fun _=>rfl) (by kernel_rfl) Tryz.underlying165 (by kernel_rfl) B3l B1n (by kernel_rfl) hlaid
 have htab1:(sl B9 (some ⟨1,0,none⟩) C0o).p (C1u W):=B2s (P:=Tryz.prog) (g:=1) (T:=167) (D:=C1w) (p:=fun _ a=>C4a a) (List.mem_of_getElem? (i:=6) rfl) (by kernel_rfl) (by kernel_rfl) C0a (sz:=2) (fun _=>rfl) (by kernel_rfl) Tryz.underlying167 (by kernel_rfl) B3l B1n (by kernel_rfl) hlaid
 have hcon:=(A5r a0 a1 true (A9t ..)).2 W (C1u W) (all_cons htab0 (all_cons htab1 C2q)) (fun b o h=>h) ⟨(fun e he=>by cases he),List.nodup_nil⟩
 refine hcon.mono fun e W' ⟨x,he,hst⟩=>⟨_,he,?_⟩
 obtain ⟨h',hst⟩:=hst
 exact B9j (by kernel_rfl) (by kernel_rfl) rfl Tryz.underlying4 rfl hW0 (KeptBut.below hst.kept) rfl
noncomputable def A0c (os:Os):World :=
 {World.holding Tryz.prog os ⟨#[],#[],[]⟩ with heap:=(A6q (A6q (A6q (A6q (A6q (A6q (A6q (World.holding Tryz.prog os ⟨#[],#[],[]⟩).heap 2 (X2 Rows.laid_fenestra_sets_signs)) 6 (X2 Rows.laid_math_bits_deBruijn32tab)) 7 (X2 Rows.laid_math_bits_deBruijn64tab)) 4 (X2 Rows.laid_internal_strconv_uint64pow10)) 3 (X2 Rows.laid_fenestra_color_named)) 0 (X2 Rows.laid_fenestra_width_marks)) 1 (X2 Rows.laid_fenestra_width_wides))}
set_option maxRecDepth 100000 in
theorem A5f (os:Os):laidMet Tryz.prog Rows.frameBlanksRow.laid ((A0c os).forCall (fun _ _=>0) ⟨#[],#[(.int .i64 0:Value),(.int .i64 0:Value)],[]⟩).memory :=
 laidMet_of_run' 8 (by kernel_rfl) (by kernel_rfl)
set_option maxRecDepth 100000 in
theorem A7f (os:Os) {H:Type} (enc:TypeId×Value→H):DataW.whole enc Tryz.prog ((A0c os).forCall (fun _ _=>0) ⟨#[],#[(.int .i64 0:Value),(.int .i64 0:Value)],[]⟩).memory Tryz.f4.params.toList Rows.frameBlanksSpec.vars false (#[(.int .i64 0:Value),(.int .i64 0:Value)]:Array Value).toList 8=some ([.lit (.int .i64 0),.lit (.int .i64 0)],[],[])∧Rows.uptoSmall H (([.lit (.int .i64 0),.lit (.int .i64 0)]:List (DataW H))++[])=true :=
 ⟨by kernel_rfl,by kernel_rfl⟩
set_option maxRecDepth 100000 in
theorem A6p (os:Os) (started:os.Started) (H:Type) (enc:TypeId×Value→H) (F:Stop.Interp) :
  ReturnsInHanded {} Tryz.checked os 4 .any ((OpenSpec.ofChange Rows.frameBlanksSpec).preRow enc Tryz.prog Tryz.f4 Rows.frameBlanksRow.domain false Rows.frameBlanksRow.laid) (((OpenSpec.ofChange Rows.frameBlanksSpec).at F).post enc Tryz.prog Tryz.f4 false true false false):=by
 obtain ⟨hx,hsm⟩:=A7f os enc
 refine returnsInHanded_of_row (C:=Tryz.checked) (s:=OpenSpec.ofChange Rows.frameBlanksSpec) (show ownKnob Tryz.prog.godebug=none by kernel_rfl) started (by kernel_rfl) Tryz.func4
  (witness_row_at (enc:=enc) (C:=Tryz.checked) false (A0c os) #[(.int .i64 0:Value),(.int .i64 0:Value)] rfl (by kernel_rfl) (by kernel_rfl) (by kernel_rfl)
   (OpenSpec.preRow_of_cond 8 hx (by kernel_rfl) (fun k hk=>by cases hk) (by kernel_rfl) (A5f os))) ?_
 intro W base args ds gs before hval hW _ hcond _ hL _ _
 exact A4r H enc W base args ds gs before hval hW hL
theorem A8n:Rows.FrameBlanksSaid :=
 OpenClaim.holds_of_cond 4 Tryz.f4 rfl rfl rfl rfl rfl rfl rfl ⟨rfl,rfl,rfl,rfl,rfl⟩ rfl rfl rfl rfl rfl (by kernel_rfl) Tryz.func4 A6i
  (of_decide_eq_true (by kernel_rfl)) (by unfold Func.isWrapper;first|(rw [if_pos (by decide +kernel)];kernel_rfl)|(rw [if_neg (by decide +kernel)];exact ⟨rfl,rfl⟩))
  (fun os started H enc _ F=>by rw [OpenClaim.pre_eq_preRow];exact A6p os started H enc F)
theorem A6y (f:FuncId) (fn:Func) (hf:Tryz.pinned.checked.prog.funcNamed Rows.frameBlanksRow.func=some f) (hfn:Tryz.pinned.checked.prog.funcs[f]?=some fn) :
  true=Tryz.pinned.checked.prog.looks []∧∀ (j:Nat) t,fn.params[j]?=some t→Tryz.pinned.checked.prog.wantsStandIn t=false:=by
 obtain rfl:f=4:=Option.some.inj ((show Tryz.prog.funcNamed Rows.frameBlanksRow.func=some 4 by kernel_rfl).symm.trans hf) |>.symm
 obtain rfl:fn=Tryz.f4:=(Option.some.inj (Tryz.func4.symm.trans hfn)).symm
 refine ⟨by kernel_rfl,fun j t ht=>?_⟩
 have hall:(Tryz.f4.params.toList.all fun t=>!(Tryz.pinned.checked.prog.wantsStandIn t))=true:=by kernel_rfl
 have:=List.all_eq_true.1 hall t (by simpa using Array.mem_of_getElem? ht)
 simpa using this
theorem frameBlanks_card:Rows.FrameBlanksCardSaid :=
 Claim7.holds_tied_plain_at .later [] _ _ _ _ A8n (fun _ h=>by cases h) (by kernel_rfl) (fun _ h=>by cases h) frameBlanks_row_tie rfl ⟨rfl,rfl⟩ (by kernel_rfl) rfl A6y A8p
end Go.Proofs.YthcjfkljekdioaaGreatDoor
