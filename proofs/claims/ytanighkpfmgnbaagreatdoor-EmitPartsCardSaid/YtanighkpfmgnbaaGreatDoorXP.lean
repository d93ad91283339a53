/- Proved: the law EmitParts holds (first form, no bound) -/
import Derived.Test.YtanighkpfmgnbaaGreatDoorCards
import Derived.Test.YtanighkpfmgnbaaGreatDoorTie
import Derived.Deep.DeepHandedRow
import Derived.SevenTiedAt
import Derived.Test.YtanighkpfmgnbaaGreatDoorWC1
import Derived.Test.YtanighkpfmgnbaaGreatDoorWN2
import Derived.Test.YtanighkpfmgnbaaGreatDoorXPK
set_option linter.unusedVariables false
set_option linter.unusedSimpArgs false
set_option linter.unnecessarySimpa false
namespace Go.Proofs.YtanighkpfmgnbaaGreatDoor
open Go Go.Fen
open Go.RowKit Go.ChangeShapes Go.ChangeAt Go.WideShapes
set_option maxRecDepth 100000 in
set_option maxHeartbeats 1000000 in
theorem B6f (H:Type) (enc:TypeId×Value→H) (W:World) (base:Nat) (args:Array Value) (ds gs:List (DataW H)) (before:List MemPlace)
  (hval:∀ (j:Nat) t v,Tryz.f6.params[j]?=some t→args[j]?=some v→Value.okWide Tryz.prog W .any base t v)
  (hW:DataW.Whole enc Tryz.prog Tryz.f6.params.toList Rows.emitPartsSpec.vars false W args.toList ds gs before) (hL:laidMetH Tryz.prog Rows.emitPartsRow.laid W) :
  Calls Tryz.prog 6 args W fun e W'=>∃ v,e=.returned v∧Rows.emitPartsSpec.post enc Tryz.prog Tryz.f6 false true false false W args v W':=by
 have hW0:=hW
 obtain ⟨p,q,hA0,hV,rfl,hfz,hnd⟩:=hW
 have hgs:gs=[]:=by
  cases gs with
  | nil=>rfl
  | cons g gs=>exact hV.elim
 subst hgs
 have hA:DataW.TrodAll enc Tryz.prog W 0 (fun _=>true) true Tryz.f6.params.toList args.toList ds p:=hA0
 rw [Tryz.params6] at hA hval
 obtain ⟨v0,vs0,d0,ds0,p0,q0,ha0,hd0,hp0,t0,r0⟩:=trodAll_cons hA
 obtain ⟨v1,vs1,d1,ds1,p1,q1,ha1,hd1,hp1,t1,r1⟩:=trodAll_cons r0
 obtain ⟨en,dn,pn⟩:=trodAll_nil r1
 subst en dn
 subst ha1 hd1
 subst hd0
 obtain rfl:args=#[v0,v1]:=by cases args;simp_all
 obtain ⟨fu0,t0⟩:=t0
 obtain ⟨a0q,a0k,a0,e0,hh0_0,hh0_1,hh0_3,hh0_2,_⟩:=E0b (c:=L4) (D:=E4i) (p:=fun _ a=>E3q a) E3f (sz:=5) (fun _=>rfl) (by kernel_rfl) (by decide) Tryz.underlying22 t0
 obtain rfl:v0=.slice a0q a0.length a0k:=by have:=hval 0 22 v0 rfl rfl;cases v0<;>simp_all [Value.cells,Value.okWide,Cell.okWide,Cell.ok,Tryz.underlying22]
 obtain ⟨fu1,t1⟩:=t1
 obtain ⟨a1,e1,-,hh1_0⟩:=(D6b Tryz.underlying5) t1
 obtain rfl:v1=.int .u8 (a1.toNat:Int):=by have:=hval 1 5 v1 rfl rfl;cases v1<;>simp_all [Value.cells,Value.okWide,Cell.okWide,Cell.ok,Tryz.underlying5,D9,E3e,E1n,cU8]
 have hlaid:laidMet Tryz.prog Rows.emitPartsRow.laid W:=hL
 have htab0:(sl B2 (some ⟨0,0,none⟩) B8a).p (B8h W):=B1f (P:=Tryz.prog) (g:=0) (T:=185) (D:=D9p) (p:=fun _ a=>E1f a) (List.mem_of_getElem? (i:=5) rfl) (by kernel_rfl) (by kernel_rfl) D6z (sz:=2) (fun _=>rfl) (by kernel_rfl) Tryz.underlying185 (by kernel_rfl) C7n C3s (by kernel_rfl) hlaid
 have htab1:(sl B2 (some ⟨1,0,none⟩) D1u).p (B8h W):=B1f (P:=Tryz.prog) (g:=1) (T:=187) (D:=D9p) (p:=fun _ a=>E1f a) (List.mem_of_getElem? (i:=6) rfl) (by kernel_rfl) (by kernel_rfl) D6z (sz:=2) (fun _=>rfl) (by kernel_rfl) Tryz.underlying187 (by kernel_rfl) C7n C3s (by kernel_rfl) hlaid
 have htab4:(sl D9 (some ⟨4,0,none⟩) D4s).p (B8h W):=B1f (P:=Tryz.prog) (g:=4) (T:=288) (D:=C1m) (p:=fun _=>C3k) (List.mem_of_getElem? (i:=3) rfl) (by kernel_rfl) (by kernel_rfl) (B4h Tryz.underlying3) (sz:=1) (fun _=>rfl) (by kernel_rfl) Tryz.underlying288 (by kernel_rfl) D2x D1g (by kernel_rfl) hlaid
 have htab7:(sl cU8 (some ⟨7,0,none⟩) C6m).p (B8h W):=B1f (P:=Tryz.prog) (g:=7) (T:=315) (D:=dU8) (p:=fun _ _=>True) (List.mem_of_getElem? (i:=1) rfl) (by kernel_rfl) (by kernel_rfl) (D6b Tryz.underlying5) (sz:=1) (fun _=>rfl) (by kernel_rfl) Tryz.underlying315 (by kernel_rfl) D7i D5i (by kernel_rfl) hlaid
 have htab5:(D8g 5 B1r).p (B8h W):=D1f▸D7f (P:=Tryz.prog) (g:=5) (T:=309) (c:=E2p) (D:=D8k) (p:=fun _ _=>True) (List.mem_of_getElem? (i:=2) rfl) (by kernel_rfl) (by kernel_rfl) (D9n Tryz.underlying150) (sz:=1) (fun _=>rfl) (by kernel_rfl) Tryz.underlying309 (by kernel_rfl) D3h D0w (tab:=Lib.pow10Tab) (by kernel_rfl) hlaid
 have htab2:(sl H7 (some ⟨2,0,none⟩) E4q).p (B8h W):=B1f (P:=Tryz.prog) (g:=2) (T:=244) (D:=E1g) (p:=fun _ a=>E3y a) (List.mem_of_getElem? (i:=4) rfl) (by kernel_rfl) (by kernel_rfl) E1x (sz:=3) (fun _=>rfl) (by kernel_rfl) Tryz.underlying244 (by kernel_rfl) D3b D1i (by kernel_rfl) hlaid
 have hcon:=(B7m a0 a1 a0q a0k (by first|omega|(simp only [List.length_take,List.length_drop,List.length_append,List.length_cons,List.length_nil,List.length_set,List.length_map];omega)|decide) (by first|omega|(simp only [List.length_take,List.length_drop,List.length_append,List.length_cons,List.length_nil,List.length_set,List.length_map];omega)|decide) (fun d hd=>⟨(hh0_3 d hd).1,(hh0_3 d hd).2.1,(hh0_3 d hd).2.2.1,(hh0_3 d hd).2.2.2.1⟩) true (C4l _ _ (fun d hd=>⟨(hh0_3 d hd).1,(hh0_3 d hd).2.1,(hh0_3 d hd).2.2.1,(hh0_3 d hd).2.2.2.1⟩))).2 W (B8h W) (all_cons hh0_2 (all_cons htab0 (all_cons htab1 (all_cons htab4 (all_cons htab7 (all_cons htab5 (all_cons htab2 all_nil))))))) (fun b o h=>h) ⟨(fun e he=>by cases he),List.nodup_nil⟩
 refine hcon.mono fun e W' ⟨x,he,hst⟩=>⟨_,he,?_⟩
 obtain ⟨h',hst⟩:=hst
 exact D4x (by kernel_rfl) (by kernel_rfl) rfl Tryz.underlying4 rfl hW0 (KeptBut.below hst.kept) rfl
noncomputable def A8l (os:Os):World :=
 {World.holding Tryz.prog os ⟨#[],#[],[]⟩ with heap:=(B5l (B5l (B5l (B5l (B5l (B5l (B5l (World.holding Tryz.prog os ⟨#[],#[],[]⟩).heap 6 (A4j Rows.laid_math_bits_deBruijn32tab)) 7 (A4j Rows.laid_math_bits_deBruijn64tab)) 5 (A4j Rows.laid_internal_strconv_uint64pow10)) 4 (A4j Rows.laid_fenestra_color_named)) 2 (A4j Rows.laid_fenestra_sgr_attrs)) 0 (A4j Rows.laid_fenestra_width_marks)) 1 (A4j Rows.laid_fenestra_width_wides))}
set_option maxRecDepth 100000 in
theorem B6c (os:Os):laidMet Tryz.prog Rows.emitPartsRow.laid ((A8l os).forCall (fun _ _=>0) ⟨#[],#[(.slice none 0 0:Value),(.int .u8 0:Value)],[]⟩).memory :=
 laidMet_of_run' 8 (by kernel_rfl) (by kernel_rfl)
set_option maxRecDepth 100000 in
theorem C0t (os:Os) {H:Type} (enc:TypeId×Value→H):DataW.whole enc Tryz.prog ((A8l os).forCall (fun _ _=>0) ⟨#[],#[(.slice none 0 0:Value),(.int .u8 0:Value)],[]⟩).memory Tryz.f6.params.toList Rows.emitPartsSpec.vars false (#[(.slice none 0 0:Value),(.int .u8 0:Value)]:Array Value).toList 8=some ([.nil,.lit (.int .u8 0)],[],[])∧Rows.uptoSmall H (([.nil,.lit (.int .u8 0)]:List (DataW H))++[])=true :=
 ⟨by kernel_rfl,by kernel_rfl⟩
set_option maxRecDepth 100000 in
theorem B8z (os:Os) (started:os.Started) (H:Type) (enc:TypeId×Value→H) (F:Stop.Interp) :
  ReturnsInHanded {} Tryz.checked os 6 .any ((OpenSpec.ofChange Rows.emitPartsSpec).preRow enc Tryz.prog Tryz.f6 Rows.emitPartsRow.domain false Rows.emitPartsRow.laid) (((OpenSpec.ofChange Rows.emitPartsSpec).at F).post enc Tryz.prog Tryz.f6 false true false false):=by
 obtain ⟨hx,hsm⟩:=C0t os enc
 refine returnsInHanded_of_row (C:=Tryz.checked) (s:=OpenSpec.ofChange Rows.emitPartsSpec) (show ownKnob Tryz.prog.godebug=none by kernel_rfl) started (by kernel_rfl) Tryz.func6
  (witness_row_at (enc:=enc) (C:=Tryz.checked) false (A8l os) #[(.slice none 0 0:Value),(.int .u8 0:Value)] rfl (by kernel_rfl) (by kernel_rfl) (by kernel_rfl)
   (OpenSpec.preRow_of_cond 8 hx (by kernel_rfl) (fun k hk=>by cases hk) (by kernel_rfl) (B6c os))) ?_
 intro W base args ds gs before hval hW _ hcond _ hL _ _
 exact B6f H enc W base args ds gs before hval hW hL
theorem C2l:Rows.EmitPartsSaid :=
 OpenClaim.holds_of_cond 6 Tryz.f6 rfl rfl rfl rfl rfl rfl rfl ⟨rfl,rfl,rfl,rfl,rfl⟩ rfl rfl rfl rfl rfl (by kernel_rfl) Tryz.func6 B8t
  (of_decide_eq_true (by kernel_rfl)) (by unfold Func.isWrapper;first|(rw [if_pos (by decide +kernel)];kernel_rfl)|(rw [if_neg (by decide +kernel)];exact ⟨rfl,rfl⟩))
  (fun os started H enc _ F=>by rw [OpenClaim.pre_eq_preRow];exact B8z os started H enc F)
theorem C0j (f:FuncId) (fn:Func) (hf:Tryz.pinned.checked.prog.funcNamed Rows.emitPartsRow.func=some f) (hfn:Tryz.pinned.checked.prog.funcs[f]?=some fn) :
  true=Tryz.pinned.checked.prog.looks []∧∀ (j:Nat) t,fn.params[j]?=some t→Tryz.pinned.checked.prog.wantsStandIn t=false:=by
 obtain rfl:f=6:=Option.some.inj ((show Tryz.prog.funcNamed Rows.emitPartsRow.func=some 6 by kernel_rfl).symm.trans hf) |>.symm
 obtain rfl:fn=Tryz.f6:=(Option.some.inj (Tryz.func6.symm.trans hfn)).symm
 refine ⟨by kernel_rfl,fun j t ht=>?_⟩
 have hall:(Tryz.f6.params.toList.all fun t=>!(Tryz.pinned.checked.prog.wantsStandIn t))=true:=by kernel_rfl
 have:=List.all_eq_true.1 hall t (by simpa using Array.mem_of_getElem? ht)
 simpa using this
theorem emitParts_card:Rows.EmitPartsCardSaid :=
 Claim7.holds_tied_plain_at .later [] _ _ _ _ C2l (fun _ h=>by cases h) (by kernel_rfl) (fun _ h=>by cases h) emitParts_row_tie rfl ⟨rfl,rfl⟩ (by kernel_rfl) rfl C0j (by kernel_rfl)
end Go.Proofs.YtanighkpfmgnbaaGreatDoor
