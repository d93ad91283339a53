/- Proved: the law EmitKnown holds (first form, no bound) -/
import Derived.Test.YtanighkpfmgnbaaGreatDoorCards
import Derived.Test.YtanighkpfmgnbaaGreatDoorTie
import Derived.Deep.DeepHandedRow
import Derived.SevenTiedAt
import Derived.Test.YtanighkpfmgnbaaGreatDoorVC1
import Derived.Test.YtanighkpfmgnbaaGreatDoorVN2
import Derived.Test.YtanighkpfmgnbaaGreatDoorXMK
set_option linter.unusedVariables false
set_option linter.unusedSimpArgs false
set_option linter.unnecessarySimpa false
namespace Go.Proofs.YtanighkpfmgnbaaGreatDoor
open Go Go.Fen
open Go.RowKit Go.ChangeShapes Go.ChangeAt Go.WideShapes
set_option maxRecDepth 100000 in
set_option maxHeartbeats 1000000 in
theorem B2x (H:Type) (enc:TypeId×Value→H) (W:World) (base:Nat) (args:Array Value) (ds gs:List (DataW H)) (before:List MemPlace)
  (hval:∀ (j:Nat) t v,Tryz.f7.params[j]?=some t→args[j]?=some v→Value.okWide Tryz.prog W .any base t v)
  (hW:DataW.Whole enc Tryz.prog Tryz.f7.params.toList Rows.emitKnownSpec.vars false W args.toList ds gs before) (hL:laidMetH Tryz.prog Rows.emitKnownRow.laid W) :
  Calls Tryz.prog 7 args W fun e W'=>∃ v,e=.returned v∧Rows.emitKnownSpec.post enc Tryz.prog Tryz.f7 false true false false W args v W':=by
 have hW0:=hW
 obtain ⟨p,q,hA0,hV,rfl,hfz,hnd⟩:=hW
 have hgs:gs=[]:=by
  cases gs with
  | nil=>rfl
  | cons g gs=>exact hV.elim
 subst hgs
 have hA:DataW.TrodAll enc Tryz.prog W 0 (fun _=>true) true Tryz.f7.params.toList args.toList ds p:=hA0
 rw [Tryz.params7] at hA hval
 obtain ⟨en,dn,pn⟩:=trodAll_nil hA
 subst dn
 obtain rfl:args=#[]:=by cases args;simp_all
 have hlaid:laidMet Tryz.prog Rows.emitKnownRow.laid W:=hL
 have htab0:(sl A6 (some ⟨0,0,none⟩) B5p).p (C2c W):=A8p (P:=Tryz.prog) (g:=0) (T:=185) (D:=D4w) (p:=fun _ a=>D8h a) (List.mem_of_getElem? (i:=5) rfl) (by kernel_rfl) (by kernel_rfl) D1c (sz:=2) (fun _=>rfl) (by kernel_rfl) Tryz.underlying185 (by kernel_rfl) C3b B9h (by kernel_rfl) hlaid
 have htab1:(sl A6 (some ⟨1,0,none⟩) C7e).p (C2c W):=A8p (P:=Tryz.prog) (g:=1) (T:=187) (D:=D4w) (p:=fun _ a=>D8h a) (List.mem_of_getElem? (i:=6) rfl) (by kernel_rfl) (by kernel_rfl) D1c (sz:=2) (fun _=>rfl) (by kernel_rfl) Tryz.underlying187 (by kernel_rfl) C3b B9h (by kernel_rfl) hlaid
 have htab4:(sl H4 (some ⟨4,0,none⟩) D0n).p (C2c W):=A8p (P:=Tryz.prog) (g:=4) (T:=288) (D:=B9k) (p:=fun _=>B8x) (List.mem_of_getElem? (i:=3) rfl) (by kernel_rfl) (by kernel_rfl) (B1r Tryz.underlying3) (sz:=1) (fun _=>rfl) (by kernel_rfl) Tryz.underlying288 (by kernel_rfl) C8f C6f (by kernel_rfl) hlaid
 have htab7:(sl cU8 (some ⟨7,0,none⟩) C2l).p (C2c W):=A8p (P:=Tryz.prog) (g:=7) (T:=315) (D:=dU8) (p:=fun _ _=>True) (List.mem_of_getElem? (i:=1) rfl) (by kernel_rfl) (by kernel_rfl) (D7j Tryz.underlying5) (sz:=1) (fun _=>rfl) (by kernel_rfl) Tryz.underlying315 (by kernel_rfl) D2h D0a (by kernel_rfl) hlaid
 have htab5:(D5l 5 A9i).p (C2c W):=C7t▸D2p (P:=Tryz.prog) (g:=5) (T:=309) (c:=D6m) (D:=D5e) (p:=fun _ _=>True) (List.mem_of_getElem? (i:=2) rfl) (by kernel_rfl) (by kernel_rfl) (D3r Tryz.underlying150) (sz:=1) (fun _=>rfl) (by kernel_rfl) Tryz.underlying309 (by kernel_rfl) C8p C7b (tab:=Lib.pow10Tab) (by kernel_rfl) hlaid
 have htab2:(sl G8 (some ⟨2,0,none⟩) D9g).p (C2c W):=A8p (P:=Tryz.prog) (g:=2) (T:=244) (D:=D8p) (p:=fun _ a=>D8u a) (List.mem_of_getElem? (i:=4) rfl) (by kernel_rfl) (by kernel_rfl) D6g (sz:=3) (fun _=>rfl) (by kernel_rfl) Tryz.underlying244 (by kernel_rfl) C8e C5y (by kernel_rfl) hlaid
 have hcon:=(B3q true (C0n)).2 W (C2c W) (all_cons htab0 (all_cons htab1 (all_cons htab4 (all_cons htab7 (all_cons htab5 (all_cons htab2 all_nil)))))) (fun b o h=>h) ⟨(fun e he=>by cases he),List.nodup_nil⟩
 refine hcon.mono fun e W' ⟨x,he,hst⟩=>⟨_,he,?_⟩
 obtain ⟨h',hst⟩:=hst
 exact C9s (by kernel_rfl) (by kernel_rfl) rfl Tryz.underlying4 rfl hW0 (KeptBut.below hst.kept) rfl
noncomputable def A6q (os:Os):World :=
 {World.holding Tryz.prog os ⟨#[],#[],[]⟩ with heap:=(B3b (B3b (B3b (B3b (B3b (B3b (B3b (World.holding Tryz.prog os ⟨#[],#[],[]⟩).heap 6 (A2s Rows.laid_math_bits_deBruijn32tab)) 7 (A2s Rows.laid_math_bits_deBruijn64tab)) 5 (A2s Rows.laid_internal_strconv_uint64pow10)) 4 (A2s Rows.laid_fenestra_color_named)) 2 (A2s Rows.laid_fenestra_sgr_attrs)) 0 (A2s Rows.laid_fenestra_width_marks)) 1 (A2s Rows.laid_fenestra_width_wides))}
set_option maxRecDepth 100000 in
theorem B3f (os:Os):laidMet Tryz.prog Rows.emitKnownRow.laid ((A6q os).forCall (fun _ _=>0) ⟨#[],#[],[]⟩).memory :=
 laidMet_of_run' 8 (by kernel_rfl) (by kernel_rfl)
set_option maxRecDepth 100000 in
theorem B7e (os:Os) {H:Type} (enc:TypeId×Value→H):DataW.whole enc Tryz.prog ((A6q os).forCall (fun _ _=>0) ⟨#[],#[],[]⟩).memory Tryz.f7.params.toList Rows.emitKnownSpec.vars false (#[]:Array Value).toList 8=some ([],[],[])∧Rows.uptoSmall H (([]:List (DataW H))++[])=true :=
 ⟨by kernel_rfl,by kernel_rfl⟩
set_option maxRecDepth 100000 in
theorem B5d (os:Os) (started:os.Started) (H:Type) (enc:TypeId×Value→H) (F:Stop.Interp) :
  ReturnsInHanded {} Tryz.checked os 7 .any ((OpenSpec.ofChange Rows.emitKnownSpec).preRow enc Tryz.prog Tryz.f7 Rows.emitKnownRow.domain false Rows.emitKnownRow.laid) (((OpenSpec.ofChange Rows.emitKnownSpec).at F).post enc Tryz.prog Tryz.f7 false true false false):=by
 obtain ⟨hx,hsm⟩:=B7e os enc
 refine returnsInHanded_of_row (C:=Tryz.checked) (s:=OpenSpec.ofChange Rows.emitKnownSpec) (show ownKnob Tryz.prog.godebug=none by kernel_rfl) started (by kernel_rfl) Tryz.func7
  (witness_row_at (enc:=enc) (C:=Tryz.checked) false (A6q os) #[] rfl (by kernel_rfl) (by kernel_rfl) (by kernel_rfl)
   (OpenSpec.preRow_of_cond 8 hx (by kernel_rfl) (fun k hk=>by cases hk) (by kernel_rfl) (B3f os))) ?_
 intro W base args ds gs before hval hW _ hcond _ hL _ _
 exact B2x H enc W base args ds gs before hval hW hL
theorem B9e:Rows.EmitKnownSaid :=
 OpenClaim.holds_of_cond 7 Tryz.f7 rfl rfl rfl rfl rfl rfl rfl ⟨rfl,rfl,rfl,rfl,rfl⟩ rfl rfl rfl rfl rfl (by kernel_rfl) Tryz.func7 B5h
  (of_decide_eq_true (by kernel_rfl)) (by unfold Func.isWrapper;first|(rw [if_pos (by decide +kernel)];kernel_rfl)|(rw [if_neg (by decide +kernel)];exact ⟨rfl,rfl⟩))
  (fun os started H enc _ F=>by rw [OpenClaim.pre_eq_preRow];exact B5d os started H enc F)
theorem B7d (f:FuncId) (fn:Func) (hf:Tryz.pinned.checked.prog.funcNamed Rows.emitKnownRow.func=some f) (hfn:Tryz.pinned.checked.prog.funcs[f]?=some fn) :
  true=Tryz.pinned.checked.prog.looks []∧∀ (j:Nat) t,fn.params[j]?=some t→Tryz.pinned.checked.prog.wantsStandIn t=false:=by
 obtain rfl:f=7:=Option.some.inj ((show Tryz.prog.funcNamed Rows.emitKnownRow.func=some 7 by kernel_rfl).symm.trans hf) |>.symm
 obtain rfl:fn=Tryz.f7:=(Option.some.inj (Tryz.func7.symm.trans hfn)).symm
 refine ⟨by kernel_rfl,fun j t ht=>?_⟩
 have hall:(Tryz.f7.params.toList.all fun t=>!(Tryz.pinned.checked.prog.wantsStandIn t))=true:=by kernel_rfl
 have:=List.all_eq_true.1 hall t (by simpa using Array.mem_of_getElem? ht)
 simpa using this
theorem emitKnown_card:Rows.EmitKnownCardSaid :=
 Claim7.holds_tied_plain_at .later [] _ _ _ _ B9e (fun _ h=>by cases h) (by kernel_rfl) (fun _ h=>by cases h) emitKnown_row_tie rfl ⟨rfl,rfl⟩ (by kernel_rfl) rfl B7d (by kernel_rfl)
end Go.Proofs.YtanighkpfmgnbaaGreatDoor
