/- Proved: the law MotionBest holds (first form, no bound) -/
import Derived.Test.YtanighkpfmgnbaaGreatDoorCards
import Derived.Test.YtanighkpfmgnbaaGreatDoorTie
import Derived.Deep.DeepHandedRow
import Derived.SevenTiedAt
import Derived.Test.YtanighkpfmgnbaaGreatDoorMC1
import Derived.Test.YtanighkpfmgnbaaGreatDoorMQ3
import Derived.Test.YtanighkpfmgnbaaGreatDoorMLK
set_option linter.unusedVariables false
set_option linter.unusedSimpArgs false
set_option linter.unnecessarySimpa false
namespace Go.Proofs.YtanighkpfmgnbaaGreatDoor
open Go Go.Fen
open Go.RowKit Go.ChangeShapes Go.ChangeAt Go.WideShapes
set_option maxRecDepth 100000 in
set_option maxHeartbeats 1000000 in
theorem B6q (H:Type) (enc:TypeId×Value→H) (W:World) (base:Nat) (args:Array Value) (ds gs:List (DataW H)) (before:List MemPlace)
  (hval:∀ (j:Nat) t v,Tryz.f9.params[j]?=some t→args[j]?=some v→Value.okWide Tryz.prog W .any base t v)
  (hW:DataW.Whole enc Tryz.prog Tryz.f9.params.toList Rows.motionBestSpec.vars false W args.toList ds gs before) (hL:laidMetH Tryz.prog Rows.motionBestRow.laid W) :
  Calls Tryz.prog 9 args W fun e W'=>∃ v,e=.returned v∧Rows.motionBestSpec.post enc Tryz.prog Tryz.f9 false true false false W args v W':=by
 have hW0:=hW
 obtain ⟨p,q,hA0,hV,rfl,hfz,hnd⟩:=hW
 have hgs:gs=[]:=by
  cases gs with
  | nil=>rfl
  | cons g gs=>exact hV.elim
 subst hgs
 have hA:DataW.TrodAll enc Tryz.prog W 0 (fun _=>true) true Tryz.f9.params.toList args.toList ds p:=hA0
 rw [Tryz.params9] at hA hval
 obtain ⟨v0,vs0,d0,ds0,p0,q0,ha0,hd0,hp0,t0,r0⟩:=trodAll_cons hA
 obtain ⟨v1,vs1,d1,ds1,p1,q1,ha1,hd1,hp1,t1,r1⟩:=trodAll_cons r0
 obtain ⟨v2,vs2,d2,ds2,p2,q2,ha2,hd2,hp2,t2,r2⟩:=trodAll_cons r1
 obtain ⟨v3,vs3,d3,ds3,p3,q3,ha3,hd3,hp3,t3,r3⟩:=trodAll_cons r2
 obtain ⟨en,dn,pn⟩:=trodAll_nil r3
 subst en dn
 subst ha3 hd3
 subst ha2 hd2
 subst ha1 hd1
 subst hd0
 obtain rfl:args=#[v0,v1,v2,v3]:=by cases args;simp_all
 obtain ⟨fu0,t0⟩:=t0
 obtain ⟨a0,e0,-,hh0_0⟩:=(A5m Tryz.underlying3) t0
 obtain rfl:v0=iv a0:=by have:=hval 0 3 v0 rfl rfl;cases v0<;>simp_all [Value.cells,Value.okWide,Cell.okWide,Cell.ok,Tryz.underlying3,I8,B0n,E7j,cU8]
 obtain ⟨fu1,t1⟩:=t1
 obtain ⟨a1,e1,-,hh1_0⟩:=(A5m Tryz.underlying3) t1
 obtain rfl:v1=iv a1:=by have:=hval 1 3 v1 rfl rfl;cases v1<;>simp_all [Value.cells,Value.okWide,Cell.okWide,Cell.ok,Tryz.underlying3,I8,B0n,E7j,cU8]
 have k2:=hval 2 52 v2 rfl rfl
 simp only [Value.okWide,Tryz.underlying52] at k2
 obtain ⟨c2,rfl,-,-⟩:=k2
 obtain ⟨fu2,t2⟩:=t2
 obtain ⟨a2,e2,-,pp2⟩:=E7w t2
 have ec2:c2=_:=Array.ext' (show c2.toList=(List.toArray _).toList from e2)
 subst ec2
 have k3:=hval 3 54 v3 rfl rfl
 simp only [Value.okWide,Tryz.underlying54] at k3
 obtain ⟨c3,rfl,-,-⟩:=k3
 obtain ⟨fu3,t3⟩:=t3
 obtain ⟨a3,e3,-,pp3⟩:=E6x t3
 have ec3:c3=_:=Array.ext' (show c3.toList=(List.toArray _).toList from e3)
 subst ec3
 have hlaid:laidMet Tryz.prog Rows.motionBestRow.laid W:=hL
 have htab0:(sl B1 (some ⟨0,0,none⟩) C0f).p (C8d W):=B2m (P:=Tryz.prog) (g:=0) (T:=185) (D:=E2t) (p:=fun _ a=>E6q a) (List.mem_of_getElem? (i:=5) rfl) (by kernel_rfl) (by kernel_rfl) D9c (sz:=2) (fun _=>rfl) (by kernel_rfl) Tryz.underlying185 (by kernel_rfl) C9h C3k (by kernel_rfl) hlaid
 have htab1:(sl B1 (some ⟨1,0,none⟩) D3h).p (C8d W):=B2m (P:=Tryz.prog) (g:=1) (T:=187) (D:=E2t) (p:=fun _ a=>E6q a) (List.mem_of_getElem? (i:=6) rfl) (by kernel_rfl) (by kernel_rfl) D9c (sz:=2) (fun _=>rfl) (by kernel_rfl) Tryz.underlying187 (by kernel_rfl) C9h C3k (by kernel_rfl) hlaid
 have htab4:(sl I8 (some ⟨4,0,none⟩) D7v).p (C8d W):=B2m (P:=Tryz.prog) (g:=4) (T:=288) (D:=B8b) (p:=fun _=>B4q) (List.mem_of_getElem? (i:=3) rfl) (by kernel_rfl) (by kernel_rfl) (A5m Tryz.underlying3) (sz:=1) (fun _=>rfl) (by kernel_rfl) Tryz.underlying288 (by kernel_rfl) D6o D3c (by kernel_rfl) hlaid
 have htab7:(sl cU8 (some ⟨7,0,none⟩) C9c).p (C8d W):=B2m (P:=Tryz.prog) (g:=7) (T:=315) (D:=dU8) (p:=fun _ _=>True) (List.mem_of_getElem? (i:=1) rfl) (by kernel_rfl) (by kernel_rfl) (E6f Tryz.underlying5) (sz:=1) (fun _=>rfl) (by kernel_rfl) Tryz.underlying315 (by kernel_rfl) D8n D7b (by kernel_rfl) hlaid
 have htab5:(E2l 5 B3h).p (C8d W):=D2x▸E0x (P:=Tryz.prog) (g:=5) (T:=309) (c:=E4g) (D:=E1z) (p:=fun _ _=>True) (List.mem_of_getElem? (i:=2) rfl) (by kernel_rfl) (by kernel_rfl) (E2g Tryz.underlying150) (sz:=1) (fun _=>rfl) (by kernel_rfl) Tryz.underlying309 (by kernel_rfl) D5x D3m (tab:=Lib.pow10Tab) (by kernel_rfl) hlaid
 have htab2:(sl I3 (some ⟨2,0,none⟩) E8m).p (C8d W):=B2m (P:=Tryz.prog) (g:=2) (T:=244) (D:=E6i) (p:=fun _ a=>E8i a) (List.mem_of_getElem? (i:=4) rfl) (by kernel_rfl) (by kernel_rfl) E4l (sz:=3) (fun _=>rfl) (by kernel_rfl) Tryz.underlying244 (by kernel_rfl) D5p D4k (by kernel_rfl) hlaid
 have hcon:=(B7q a0 a1 a2 a3 true (C5j ..)).2 W (C8d W) (all_cons htab0 (all_cons htab1 (all_cons htab4 (all_cons htab7 (all_cons htab5 (all_cons htab2 all_nil)))))) (fun b o h=>h) ⟨(fun e he=>by cases he),List.nodup_nil⟩
 refine hcon.mono fun e W' ⟨x,he,hst⟩=>⟨_,he,?_⟩
 obtain ⟨h',hst⟩:=hst
 exact D6y (by kernel_rfl) (by kernel_rfl) rfl Tryz.underlying4 rfl hW0 (KeptBut.below hst.kept) rfl
noncomputable def A8u (os:Os):World :=
 {World.holding Tryz.prog os ⟨#[],#[],[]⟩ with heap:=(B7l (B7l (B7l (B7l (B7l (B7l (B7l (World.holding Tryz.prog os ⟨#[],#[],[]⟩).heap 6 (A5z Rows.laid_math_bits_deBruijn32tab)) 7 (A5z Rows.laid_math_bits_deBruijn64tab)) 5 (A5z Rows.laid_internal_strconv_uint64pow10)) 4 (A5z Rows.laid_fenestra_color_named)) 2 (A5z Rows.laid_fenestra_sgr_attrs)) 0 (A5z Rows.laid_fenestra_width_marks)) 1 (A5z Rows.laid_fenestra_width_wides))}
set_option maxRecDepth 100000 in
theorem B6n (os:Os):laidMet Tryz.prog Rows.motionBestRow.laid ((A8u os).forCall (fun _ _=>0) ⟨#[],#[(.int .i64 0:Value),(.int .i64 0:Value),(.agg #[.int .i64 0,.int .i64 0,.bool false]:Value),(.agg #[.int .i64 0,.int .i64 0]:Value)],[]⟩).memory :=
 laidMet_of_run' 8 (by kernel_rfl) (by kernel_rfl)
set_option maxRecDepth 100000 in
theorem C0x (os:Os) {H:Type} (enc:TypeId×Value→H):DataW.whole enc Tryz.prog ((A8u os).forCall (fun _ _=>0) ⟨#[],#[(.int .i64 0:Value),(.int .i64 0:Value),(.agg #[.int .i64 0,.int .i64 0,.bool false]:Value),(.agg #[.int .i64 0,.int .i64 0]:Value)],[]⟩).memory Tryz.f9.params.toList Rows.motionBestSpec.vars false (#[(.int .i64 0:Value),(.int .i64 0:Value),(.agg #[.int .i64 0,.int .i64 0,.bool false]:Value),(.agg #[.int .i64 0,.int .i64 0]:Value)]:Array Value).toList 8=some ([.lit (.int .i64 0),.lit (.int .i64 0),.agg [.lit (.int .i64 0),.lit (.int .i64 0),.lit (.bool false)],.agg [.lit (.int .i64 0),.lit (.int .i64 0)]],[],[])∧Rows.uptoSmall H (([.lit (.int .i64 0),.lit (.int .i64 0),.agg [.lit (.int .i64 0),.lit (.int .i64 0),.lit (.bool false)],.agg [.lit (.int .i64 0),.lit (.int .i64 0)]]:List (DataW H))++[])=true :=
 ⟨by kernel_rfl,by kernel_rfl⟩
set_option maxRecDepth 100000 in
theorem B9v (os:Os) (started:os.Started) (H:Type) (enc:TypeId×Value→H) (F:Stop.Interp) :
  ReturnsInHanded {} Tryz.checked os 9 .any ((OpenSpec.ofChange Rows.motionBestSpec).preRow enc Tryz.prog Tryz.f9 Rows.motionBestRow.domain false Rows.motionBestRow.laid) (((OpenSpec.ofChange Rows.motionBestSpec).at F).post enc Tryz.prog Tryz.f9 false true false false):=by
 obtain ⟨hx,hsm⟩:=C0x os enc
 refine returnsInHanded_of_row (C:=Tryz.checked) (s:=OpenSpec.ofChange Rows.motionBestSpec) (show ownKnob Tryz.prog.godebug=none by kernel_rfl) started (by kernel_rfl) Tryz.func9
  (witness_row_at (enc:=enc) (C:=Tryz.checked) false (A8u os) #[(.int .i64 0:Value),(.int .i64 0:Value),(.agg #[.int .i64 0,.int .i64 0,.bool false]:Value),(.agg #[.int .i64 0,.int .i64 0]:Value)] rfl (by kernel_rfl) (by kernel_rfl) (by kernel_rfl)
   (OpenSpec.preRow_of_cond 8 hx (by kernel_rfl) (fun k hk=>by cases hk) (by kernel_rfl) (B6n os))) ?_
 intro W base args ds gs before hval hW _ hcond _ hL _ _
 exact B6q H enc W base args ds gs before hval hW hL
theorem C2s:Rows.MotionBestSaid :=
 OpenClaim.holds_of_cond 9 Tryz.f9 rfl rfl rfl rfl rfl rfl rfl ⟨rfl,rfl,rfl,rfl,rfl⟩ rfl rfl rfl rfl rfl (by kernel_rfl) Tryz.func9 B8z
  (of_decide_eq_true (by kernel_rfl)) (by unfold Func.isWrapper;first|(rw [if_pos (by decide +kernel)];kernel_rfl)|(rw [if_neg (by decide +kernel)];exact ⟨rfl,rfl⟩))
  (fun os started H enc _ F=>by rw [OpenClaim.pre_eq_preRow];exact B9v os started H enc F)
theorem C0w (f:FuncId) (fn:Func) (hf:Tryz.pinned.checked.prog.funcNamed Rows.motionBestRow.func=some f) (hfn:Tryz.pinned.checked.prog.funcs[f]?=some fn) :
  true=Tryz.pinned.checked.prog.looks []∧∀ (j:Nat) t,fn.params[j]?=some t→Tryz.pinned.checked.prog.wantsStandIn t=false:=by
 obtain rfl:f=9:=Option.some.inj ((show Tryz.prog.funcNamed Rows.motionBestRow.func=some 9 by kernel_rfl).symm.trans hf) |>.symm
 obtain rfl:fn=Tryz.f9:=(Option.some.inj (Tryz.func9.symm.trans hfn)).symm
 refine ⟨by kernel_rfl,fun j t ht=>?_⟩
 have hall:(Tryz.f9.params.toList.all fun t=>!(Tryz.pinned.checked.prog.wantsStandIn t))=true:=by kernel_rfl
 have:=List.all_eq_true.1 hall t (by simpa using Array.mem_of_getElem? ht)
 simpa using this
theorem motionBest_card:Rows.MotionBestCardSaid :=
 Claim7.holds_tied_plain_at .later [] _ _ _ _ C2s (fun _ h=>by cases h) (by kernel_rfl) (fun _ h=>by cases h) motionBest_row_tie rfl ⟨rfl,rfl⟩ (by kernel_rfl) rfl C0w (by kernel_rfl)
end Go.Proofs.YtanighkpfmgnbaaGreatDoor
