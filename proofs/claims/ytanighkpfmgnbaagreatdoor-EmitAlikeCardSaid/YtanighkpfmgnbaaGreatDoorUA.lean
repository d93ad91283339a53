/- Proved: the law EmitAlike holds (first form, no bound) -/
import Derived.Test.YtanighkpfmgnbaaGreatDoorCards
import Derived.Test.YtanighkpfmgnbaaGreatDoorTie
import Derived.Deep.DeepHandedRow
import Derived.SevenTiedAt
import Derived.Test.YtanighkpfmgnbaaGreatDoorUC1
import Derived.Test.YtanighkpfmgnbaaGreatDoorUN3
import Derived.Test.YtanighkpfmgnbaaGreatDoorUAK
set_option linter.unusedVariables false
set_option linter.unusedSimpArgs false
set_option linter.unnecessarySimpa false
namespace Go.Proofs.YtanighkpfmgnbaaGreatDoor
open Go Go.Fen
open Go.RowKit Go.ChangeShapes Go.ChangeAt Go.WideShapes
set_option maxRecDepth 100000 in
set_option maxHeartbeats 1000000 in
theorem B6n (H:Type) (enc:TypeId×Value→H) (W:World) (base:Nat) (args:Array Value) (ds gs:List (DataW H)) (before:List MemPlace)
  (hval:∀ (j:Nat) t v,Tryz.f4.params[j]?=some t→args[j]?=some v→Value.okWide Tryz.prog W .any base t v)
  (hW:DataW.Whole enc Tryz.prog Tryz.f4.params.toList Rows.emitAlikeSpec.vars false W args.toList ds gs before) (hL:laidMetH Tryz.prog Rows.emitAlikeRow.laid W) :
  Calls Tryz.prog 4 args W fun e W'=>∃ v,e=.returned v∧Rows.emitAlikeSpec.post enc Tryz.prog Tryz.f4 false true false false W args v W':=by
 have hW0:=hW
 obtain ⟨p,q,hA0,hV,rfl,hfz,hnd⟩:=hW
 have hgs:gs=[]:=by
  cases gs with
  | nil=>rfl
  | cons g gs=>exact hV.elim
 subst hgs
 have hA:DataW.TrodAll enc Tryz.prog W 0 (fun _=>true) true Tryz.f4.params.toList args.toList ds p:=hA0
 rw [Tryz.params4] at hA hval
 obtain ⟨v0,vs0,d0,ds0,p0,q0,ha0,hd0,hp0,t0,r0⟩:=trodAll_cons hA
 obtain ⟨v1,vs1,d1,ds1,p1,q1,ha1,hd1,hp1,t1,r1⟩:=trodAll_cons r0
 obtain ⟨v2,vs2,d2,ds2,p2,q2,ha2,hd2,hp2,t2,r2⟩:=trodAll_cons r1
 obtain ⟨en,dn,pn⟩:=trodAll_nil r2
 subst en dn
 subst ha2 hd2
 subst ha1 hd1
 subst hd0
 obtain rfl:args=#[v0,v1,v2]:=by cases args;simp_all
 obtain ⟨fu0,t0⟩:=t0
 obtain ⟨a0q,a0k,a0,e0,hh0_0,hh0_1,hh0_3,hh0_2,_⟩:=D3u (c:=L5) (D:=E4i) (p:=fun _ a=>E5f a) E2s (sz:=5) (fun _=>rfl) (by kernel_rfl) (by decide) Tryz.underlying22 t0
 obtain rfl:v0=.slice a0q a0.length a0k:=by have:=hval 0 22 v0 rfl rfl;cases v0<;>simp_all [Value.cells,Value.okWide,Cell.okWide,Cell.ok,Tryz.underlying22]
 obtain ⟨fu1,t1⟩:=t1
 obtain ⟨a1q,a1k,a1,e1,hh1_0,hh1_1,hh1_3,hh1_2,_⟩:=D3u (c:=L5) (D:=E4i) (p:=fun _ a=>E5f a) E2s (sz:=5) (fun _=>rfl) (by kernel_rfl) (by decide) Tryz.underlying22 t1
 obtain rfl:v1=.slice a1q a1.length a1k:=by have:=hval 1 22 v1 rfl rfl;cases v1<;>simp_all [Value.cells,Value.okWide,Cell.okWide,Cell.ok,Tryz.underlying22]
 obtain ⟨fu2,t2⟩:=t2
 obtain ⟨a2,e2,-,hh2_0⟩:=(D7q Tryz.underlying5) t2
 obtain rfl:v2=.int .u8 (a2.toNat:Int):=by have:=hval 2 5 v2 rfl rfl;cases v2<;>simp_all [Value.cells,Value.okWide,Cell.okWide,Cell.ok,Tryz.underlying5,F0,E5z,E4y,cU8]
 have hlaid:laidMet Tryz.prog Rows.emitAlikeRow.laid W:=hL
 have htab0:(sl B2 (some ⟨0,0,none⟩) B9b).p (B9x W):=B1q (P:=Tryz.prog) (g:=0) (T:=185) (D:=E2a) (p:=fun _ a=>E4z a) (List.mem_of_getElem? (i:=5) rfl) (by kernel_rfl) (by kernel_rfl) D9n (sz:=2) (fun _=>rfl) (by kernel_rfl) Tryz.underlying185 (by kernel_rfl) C9c C3q (by kernel_rfl) hlaid
 have htab1:(sl B2 (some ⟨1,0,none⟩) D2f).p (B9x W):=B1q (P:=Tryz.prog) (g:=1) (T:=187) (D:=E2a) (p:=fun _ a=>E4z a) (List.mem_of_getElem? (i:=6) rfl) (by kernel_rfl) (by kernel_rfl) D9n (sz:=2) (fun _=>rfl) (by kernel_rfl) Tryz.underlying187 (by kernel_rfl) C9c C3q (by kernel_rfl) hlaid
 have htab4:(sl F0 (some ⟨4,0,none⟩) D6j).p (B9x W):=B1q (P:=Tryz.prog) (g:=4) (T:=288) (D:=C2y) (p:=fun _=>C3w) (List.mem_of_getElem? (i:=3) rfl) (by kernel_rfl) (by kernel_rfl) (B4x Tryz.underlying3) (sz:=1) (fun _=>rfl) (by kernel_rfl) Tryz.underlying288 (by kernel_rfl) D4o D2x (by kernel_rfl) hlaid
 have htab7:(sl cU8 (some ⟨7,0,none⟩) C8y).p (B9x W):=B1q (P:=Tryz.prog) (g:=7) (T:=315) (D:=dU8) (p:=fun _ _=>True) (List.mem_of_getElem? (i:=1) rfl) (by kernel_rfl) (by kernel_rfl) (D7q Tryz.underlying5) (sz:=1) (fun _=>rfl) (by kernel_rfl) Tryz.underlying315 (by kernel_rfl) D8s D6p (by kernel_rfl) hlaid
 have htab5:(E0o 5 B2o).p (B9x W):=D2d▸D9x (P:=Tryz.prog) (g:=5) (T:=309) (c:=E5b) (D:=E1k) (p:=fun _ _=>True) (List.mem_of_getElem? (i:=2) rfl) (by kernel_rfl) (by kernel_rfl) (E0v Tryz.underlying150) (sz:=1) (fun _=>rfl) (by kernel_rfl) Tryz.underlying309 (by kernel_rfl) D4w D2v (tab:=Lib.pow10Tab) (by kernel_rfl) hlaid
 have htab2:(sl H9 (some ⟨2,0,none⟩) E7e).p (B9x W):=B1q (P:=Tryz.prog) (g:=2) (T:=244) (D:=E4e) (p:=fun _ a=>E7m a) (List.mem_of_getElem? (i:=4) rfl) (by kernel_rfl) (by kernel_rfl) E4j (sz:=3) (fun _=>rfl) (by kernel_rfl) Tryz.underlying244 (by kernel_rfl) D4m D3q (by kernel_rfl) hlaid
 have hcon:=(B6x a0 a1 a2 a0q a0k a1q a1k (by first|omega|(simp only [List.length_take,List.length_drop,List.length_append,List.length_cons,List.length_nil,List.length_set,List.length_map];omega)|decide) (by first|omega|(simp only [List.length_take,List.length_drop,List.length_append,List.length_cons,List.length_nil,List.length_set,List.length_map];omega)|decide) (by first|omega|(simp only [List.length_take,List.length_drop,List.length_append,List.length_cons,List.length_nil,List.length_set,List.length_map];omega)|decide) (by first|omega|(simp only [List.length_take,List.length_drop,List.length_append,List.length_cons,List.length_nil,List.length_set,List.length_map];omega)|decide) (fun d hd=>⟨(hh0_3 d hd).1,(hh0_3 d hd).2.1,(hh0_3 d hd).2.2.1,(hh0_3 d hd).2.2.2.1⟩) (fun d hd=>⟨(hh1_3 d hd).1,(hh1_3 d hd).2.1,(hh1_3 d hd).2.2.1,(hh1_3 d hd).2.2.2.1⟩) true (C5h _ _ _ (fun d hd=>⟨(hh0_3 d hd).1,(hh0_3 d hd).2.1,(hh0_3 d hd).2.2.1,(hh0_3 d hd).2.2.2.1⟩) (fun d hd=>⟨(hh1_3 d hd).1,(hh1_3 d hd).2.1,(hh1_3 d hd).2.2.1,(hh1_3 d hd).2.2.2.1⟩))).2 W (B9x W) (all_cons hh0_2 (all_cons hh1_2 (all_cons htab0 (all_cons htab1 (all_cons htab4 (all_cons htab7 (all_cons htab5 (all_cons htab2 all_nil)))))))) (fun b o h=>h) ⟨(fun e he=>by cases he),List.nodup_nil⟩
 refine hcon.mono fun e W' ⟨x,he,hst⟩=>⟨_,he,?_⟩
 obtain ⟨h',hst⟩:=hst
 exact D5u (by kernel_rfl) (by kernel_rfl) rfl Tryz.underlying4 rfl hW0 (KeptBut.below hst.kept) rfl
noncomputable def A9j (os:Os):World :=
 {World.holding Tryz.prog os ⟨#[],#[],[]⟩ with heap:=(B5y (B5y (B5y (B5y (B5y (B5y (B5y (World.holding Tryz.prog os ⟨#[],#[],[]⟩).heap 6 (A4p Rows.laid_math_bits_deBruijn32tab)) 7 (A4p Rows.laid_math_bits_deBruijn64tab)) 5 (A4p Rows.laid_internal_strconv_uint64pow10)) 4 (A4p Rows.laid_fenestra_color_named)) 2 (A4p Rows.laid_fenestra_sgr_attrs)) 0 (A4p Rows.laid_fenestra_width_marks)) 1 (A4p Rows.laid_fenestra_width_wides))}
set_option maxRecDepth 100000 in
theorem B5t (os:Os):laidMet Tryz.prog Rows.emitAlikeRow.laid ((A9j os).forCall (fun _ _=>0) ⟨#[],#[(.slice none 0 0:Value),(.slice none 0 0:Value),(.int .u8 0:Value)],[]⟩).memory :=
 laidMet_of_run' 8 (by kernel_rfl) (by kernel_rfl)
set_option maxRecDepth 100000 in
theorem C0y (os:Os) {H:Type} (enc:TypeId×Value→H):DataW.whole enc Tryz.prog ((A9j os).forCall (fun _ _=>0) ⟨#[],#[(.slice none 0 0:Value),(.slice none 0 0:Value),(.int .u8 0:Value)],[]⟩).memory Tryz.f4.params.toList Rows.emitAlikeSpec.vars false (#[(.slice none 0 0:Value),(.slice none 0 0:Value),(.int .u8 0:Value)]:Array Value).toList 8=some ([.nil,.nil,.lit (.int .u8 0)],[],[])∧Rows.uptoSmall H (([.nil,.nil,.lit (.int .u8 0)]:List (DataW H))++[])=true :=
 ⟨by kernel_rfl,by kernel_rfl⟩
set_option maxRecDepth 100000 in
theorem B9f (os:Os) (started:os.Started) (H:Type) (enc:TypeId×Value→H) (F:Stop.Interp) :
  ReturnsInHanded {} Tryz.checked os 4 .any ((OpenSpec.ofChange Rows.emitAlikeSpec).preRow enc Tryz.prog Tryz.f4 Rows.emitAlikeRow.domain false Rows.emitAlikeRow.laid) (((OpenSpec.ofChange Rows.emitAlikeSpec).at F).post enc Tryz.prog Tryz.f4 false true false false):=by
 obtain ⟨hx,hsm⟩:=C0y os enc
 refine returnsInHanded_of_row (C:=Tryz.checked) (s:=OpenSpec.ofChange Rows.emitAlikeSpec) (show ownKnob Tryz.prog.godebug=none by kernel_rfl) started (by kernel_rfl) Tryz.func4
  (witness_row_at (enc:=enc) (C:=Tryz.checked) false (A9j os) #[(.slice none 0 0:Value),(.slice none 0 0:Value),(.int .u8 0:Value)] rfl (by kernel_rfl) (by kernel_rfl) (by kernel_rfl)
   (OpenSpec.preRow_of_cond 8 hx (by kernel_rfl) (fun k hk=>by cases hk) (by kernel_rfl) (B5t os))) ?_
 intro W base args ds gs before hval hW _ hcond _ hL _ _
 exact B6n H enc W base args ds gs before hval hW hL
theorem C3j:Rows.EmitAlikeSaid :=
 OpenClaim.holds_of_cond 4 Tryz.f4 rfl rfl rfl rfl rfl rfl rfl ⟨rfl,rfl,rfl,rfl,rfl⟩ rfl rfl rfl rfl rfl (by kernel_rfl) Tryz.func4 B9a
  (of_decide_eq_true (by kernel_rfl)) (by unfold Func.isWrapper;first|(rw [if_pos (by decide +kernel)];kernel_rfl)|(rw [if_neg (by decide +kernel)];exact ⟨rfl,rfl⟩))
  (fun os started H enc _ F=>by rw [OpenClaim.pre_eq_preRow];exact B9f os started H enc F)
theorem C1o (f:FuncId) (fn:Func) (hf:Tryz.pinned.checked.prog.funcNamed Rows.emitAlikeRow.func=some f) (hfn:Tryz.pinned.checked.prog.funcs[f]?=some fn) :
  true=Tryz.pinned.checked.prog.looks []∧∀ (j:Nat) t,fn.params[j]?=some t→Tryz.pinned.checked.prog.wantsStandIn t=false:=by
 obtain rfl:f=4:=Option.some.inj ((show Tryz.prog.funcNamed Rows.emitAlikeRow.func=some 4 by kernel_rfl).symm.trans hf) |>.symm
 obtain rfl:fn=Tryz.f4:=(Option.some.inj (Tryz.func4.symm.trans hfn)).symm
 refine ⟨by kernel_rfl,fun j t ht=>?_⟩
 have hall:(Tryz.f4.params.toList.all fun t=>!(Tryz.pinned.checked.prog.wantsStandIn t))=true:=by kernel_rfl
 have:=List.all_eq_true.1 hall t (by simpa using Array.mem_of_getElem? ht)
 simpa using this
theorem emitAlike_card:Rows.EmitAlikeCardSaid :=
 Claim7.holds_tied_plain_at .later [] _ _ _ _ C3j (fun _ h=>by cases h) (by kernel_rfl) (fun _ h=>by cases h) emitAlike_row_tie rfl ⟨rfl,rfl⟩ (by kernel_rfl) rfl C1o (by kernel_rfl)
end Go.Proofs.YtanighkpfmgnbaaGreatDoor
