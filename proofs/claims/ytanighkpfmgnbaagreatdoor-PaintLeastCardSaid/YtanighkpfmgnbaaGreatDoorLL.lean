/- Proved: the law PaintLeast holds (first form, no bound) -/
import Derived.Test.YtanighkpfmgnbaaGreatDoorCards
import Derived.Test.YtanighkpfmgnbaaGreatDoorTie
import Derived.Deep.DeepHandedRow
import Derived.SevenTiedAt
import Derived.Test.YtanighkpfmgnbaaGreatDoorLC1
import Derived.Test.YtanighkpfmgnbaaGreatDoorLN2
import Derived.Test.YtanighkpfmgnbaaGreatDoorLLK
set_option linter.unusedVariables false
set_option linter.unusedSimpArgs false
set_option linter.unnecessarySimpa false
namespace Go.Proofs.YtanighkpfmgnbaaGreatDoor
open Go Go.Fen
open Go.RowKit Go.ChangeShapes Go.ChangeAt Go.WideShapes
set_option maxRecDepth 100000 in
set_option maxHeartbeats 1000000 in
theorem B6j (H:Type) (enc:TypeId×Value→H) (W:World) (base:Nat) (args:Array Value) (ds gs:List (DataW H)) (before:List MemPlace)
  (hval:∀ (j:Nat) t v,Tryz.f12.params[j]?=some t→args[j]?=some v→Value.okWide Tryz.prog W .any base t v)
  (hW:DataW.Whole enc Tryz.prog Tryz.f12.params.toList Rows.paintLeastSpec.vars false W args.toList ds gs before) (hL:laidMetH Tryz.prog Rows.paintLeastRow.laid W) :
  Calls Tryz.prog 12 args W fun e W'=>∃ v,e=.returned v∧Rows.paintLeastSpec.post enc Tryz.prog Tryz.f12 false true false false W args v W':=by
 have hW0:=hW
 obtain ⟨p,q,hA0,hV,rfl,hfz,hnd⟩:=hW
 have hgs:gs=[]:=by
  cases gs with
  | nil=>rfl
  | cons g gs=>exact hV.elim
 subst hgs
 have hA:DataW.TrodAll enc Tryz.prog W 0 (fun _=>true) true Tryz.f12.params.toList args.toList ds p:=hA0
 rw [Tryz.params12] at hA hval
 obtain ⟨v0,vs0,d0,ds0,p0,q0,ha0,hd0,hp0,t0,r0⟩:=trodAll_cons hA
 obtain ⟨v1,vs1,d1,ds1,p1,q1,ha1,hd1,hp1,t1,r1⟩:=trodAll_cons r0
 obtain ⟨en,dn,pn⟩:=trodAll_nil r1
 subst en dn
 subst ha1 hd1
 subst hd0
 obtain rfl:args=#[v0,v1]:=by cases args;simp_all
 obtain ⟨fu0,t0⟩:=t0
 obtain ⟨a0q,a0k,a0,e0,hh0_0,hh0_1,hh0_3,hh0_2,_⟩:=E2u (c:=I1) (D:=E8v) (p:=fun _ a=>E8h a) E9g (sz:=12) (fun _=>rfl) (by kernel_rfl) (by decide) Tryz.underlying65 t0
 obtain rfl:v0=.slice a0q a0.length a0k:=by have:=hval 0 65 v0 rfl rfl;cases v0<;>simp_all [Value.cells,Value.okWide,Cell.okWide,Cell.ok,Tryz.underlying65]
 have k1:=hval 1 67 v1 rfl rfl
 simp only [Value.okWide,Tryz.underlying67] at k1
 obtain ⟨c1,rfl,-,-⟩:=k1
 obtain ⟨fu1,t1⟩:=t1
 obtain ⟨a1,e1,-,pp1⟩:=E4u t1
 have ec1:c1=_:=Array.ext' (show c1.toList=(List.toArray _).toList from e1)
 subst ec1
 have hlaid:laidMet Tryz.prog Rows.paintLeastRow.laid W:=hL
 have htab0:(sl B3 (some ⟨0,0,none⟩) C1k).p (C1i W):=B2x (P:=Tryz.prog) (g:=0) (T:=185) (D:=E3n) (p:=fun _ a=>E5y a) (List.mem_of_getElem? (i:=5) rfl) (by kernel_rfl) (by kernel_rfl) E2c (sz:=2) (fun _=>rfl) (by kernel_rfl) Tryz.underlying185 (by kernel_rfl) C9e C4d (by kernel_rfl) hlaid
 have htab1:(sl B3 (some ⟨1,0,none⟩) D4d).p (C1i W):=B2x (P:=Tryz.prog) (g:=1) (T:=187) (D:=E3n) (p:=fun _ a=>E5y a) (List.mem_of_getElem? (i:=6) rfl) (by kernel_rfl) (by kernel_rfl) E2c (sz:=2) (fun _=>rfl) (by kernel_rfl) Tryz.underlying187 (by kernel_rfl) C9e C4d (by kernel_rfl) hlaid
 have htab4:(sl I6 (some ⟨4,0,none⟩) D8j).p (C1i W):=B2x (P:=Tryz.prog) (g:=4) (T:=288) (D:=B3q) (p:=fun _=>B0a) (List.mem_of_getElem? (i:=3) rfl) (by kernel_rfl) (by kernel_rfl) (A3k Tryz.underlying3) (sz:=1) (fun _=>rfl) (by kernel_rfl) Tryz.underlying288 (by kernel_rfl) D5v D4g (by kernel_rfl) hlaid
 have htab7:(sl cU8 (some ⟨7,0,none⟩) C8o).p (C1i W):=B2x (P:=Tryz.prog) (g:=7) (T:=315) (D:=dU8) (p:=fun _ _=>True) (List.mem_of_getElem? (i:=1) rfl) (by kernel_rfl) (by kernel_rfl) (E7i Tryz.underlying5) (sz:=1) (fun _=>rfl) (by kernel_rfl) Tryz.underlying315 (by kernel_rfl) D9z D7v (by kernel_rfl) hlaid
 have htab5:(E3w 5 B3j).p (C1i W):=D4z▸E1l (P:=Tryz.prog) (g:=5) (T:=309) (c:=E6u) (D:=E4k) (p:=fun _ _=>True) (List.mem_of_getElem? (i:=2) rfl) (by kernel_rfl) (by kernel_rfl) (E3t Tryz.underlying150) (sz:=1) (fun _=>rfl) (by kernel_rfl) Tryz.underlying309 (by kernel_rfl) D6l D4r (tab:=Lib.pow10Tab) (by kernel_rfl) hlaid
 have htab2:(sl H8 (some ⟨2,0,none⟩) E9m).p (C1i W):=B2x (P:=Tryz.prog) (g:=2) (T:=244) (D:=E6g) (p:=fun _ a=>E9s a) (List.mem_of_getElem? (i:=4) rfl) (by kernel_rfl) (by kernel_rfl) E7n (sz:=3) (fun _=>rfl) (by kernel_rfl) Tryz.underlying244 (by kernel_rfl) D6n D3g (by kernel_rfl) hlaid
 have hcon:=(B7i a0 a1 a0q a0k (by first|omega|(simp only [List.length_take,List.length_drop,List.length_append,List.length_cons,List.length_nil,List.length_set,List.length_map];omega)|decide) (by first|omega|(simp only [List.length_take,List.length_drop,List.length_append,List.length_cons,List.length_nil,List.length_set,List.length_map];omega)|decide) true (C5o ..)).2 W (C1i W) (all_cons hh0_2 (all_cons htab0 (all_cons htab1 (all_cons htab4 (all_cons htab7 (all_cons htab5 (all_cons htab2 all_nil))))))) (fun b o h=>h) ⟨(fun e he=>by cases he),List.nodup_nil⟩
 refine hcon.mono fun e W' ⟨x,he,hst⟩=>⟨_,he,?_⟩
 obtain ⟨h',hst⟩:=hst
 exact D7s (by kernel_rfl) (by kernel_rfl) rfl Tryz.underlying4 rfl hW0 (KeptBut.below hst.kept) rfl
noncomputable def A8s (os:Os):World :=
 {World.holding Tryz.prog os ⟨#[],#[],[]⟩ with heap:=(B7p (B7p (B7p (B7p (B7p (B7p (B7p (World.holding Tryz.prog os ⟨#[],#[],[]⟩).heap 6 (A6a Rows.laid_math_bits_deBruijn32tab)) 7 (A6a Rows.laid_math_bits_deBruijn64tab)) 5 (A6a Rows.laid_internal_strconv_uint64pow10)) 4 (A6a Rows.laid_fenestra_color_named)) 2 (A6a Rows.laid_fenestra_sgr_attrs)) 0 (A6a Rows.laid_fenestra_width_marks)) 1 (A6a Rows.laid_fenestra_width_wides))}
set_option maxRecDepth 100000 in
theorem B6m (os:Os):laidMet Tryz.prog Rows.paintLeastRow.laid ((A8s os).forCall (fun _ _=>0) ⟨#[],#[(.slice none 0 0:Value),(.agg #[.int .i64 0,.int .i64 0,.int .i64 0,.int .i64 0,.int .i64 0,.int .i64 0,.int .i64 0,.int .i64 0]:Value)],[]⟩).memory :=
 laidMet_of_run' 8 (by kernel_rfl) (by kernel_rfl)
set_option maxRecDepth 100000 in
theorem C0y (os:Os) {H:Type} (enc:TypeId×Value→H):DataW.whole enc Tryz.prog ((A8s os).forCall (fun _ _=>0) ⟨#[],#[(.slice none 0 0:Value),(.agg #[.int .i64 0,.int .i64 0,.int .i64 0,.int .i64 0,.int .i64 0,.int .i64 0,.int .i64 0,.int .i64 0]:Value)],[]⟩).memory Tryz.f12.params.toList Rows.paintLeastSpec.vars false (#[(.slice none 0 0:Value),(.agg #[.int .i64 0,.int .i64 0,.int .i64 0,.int .i64 0,.int .i64 0,.int .i64 0,.int .i64 0,.int .i64 0]:Value)]:Array Value).toList 8=some ([.nil,.agg [.lit (.int .i64 0),.lit (.int .i64 0),.agg [.lit (.int .i64 0),.lit (.int .i64 0)],.agg [.lit (.int .i64 0),.lit (.int .i64 0)],.agg [.lit (.int .i64 0),.lit (.int .i64 0)]]],[],[])∧Rows.uptoSmall H (([.nil,.agg [.lit (.int .i64 0),.lit (.int .i64 0),.agg [.lit (.int .i64 0),.lit (.int .i64 0)],.agg [.lit (.int .i64 0),.lit (.int .i64 0)],.agg [.lit (.int .i64 0),.lit (.int .i64 0)]]]:List (DataW H))++[])=true :=
 ⟨by kernel_rfl,by kernel_rfl⟩
set_option maxRecDepth 100000 in
theorem B8t (os:Os) (started:os.Started) (H:Type) (enc:TypeId×Value→H) (F:Stop.Interp) :
  ReturnsInHanded {} Tryz.checked os 12 .any ((OpenSpec.ofChange Rows.paintLeastSpec).preRow enc Tryz.prog Tryz.f12 Rows.paintLeastRow.domain false Rows.paintLeastRow.laid) (((OpenSpec.ofChange Rows.paintLeastSpec).at F).post enc Tryz.prog Tryz.f12 false true false false):=by
 obtain ⟨hx,hsm⟩:=C0y os enc
 refine returnsInHanded_of_row (C:=Tryz.checked) (s:=OpenSpec.ofChange Rows.paintLeastSpec) (show ownKnob Tryz.prog.godebug=none by kernel_rfl) started (by kernel_rfl) Tryz.func12
  (witness_row_at (enc:=enc) (C:=Tryz.checked) false (A8s os) #[(.slice none 0 0:Value),(.agg #[.int .i64 0,.int .i64 0,.int .i64 0,.int .i64 0,.int .i64 0,.int .i64 0,.int .i64 0,.int .i64 0]:Value)] rfl (by kernel_rfl) (by kernel_rfl) (by kernel_rfl)
   (OpenSpec.preRow_of_cond 8 hx (by kernel_rfl) (fun k hk=>by cases hk) (by kernel_rfl) (B6m os))) ?_
 intro W base args ds gs before hval hW _ hcond _ hL _ _
 exact B6j H enc W base args ds gs before hval hW hL
theorem C2x:Rows.PaintLeastSaid :=
 OpenClaim.holds_of_cond 12 Tryz.f12 rfl rfl rfl rfl rfl rfl rfl ⟨rfl,rfl,rfl,rfl,rfl⟩ rfl rfl rfl rfl rfl (by kernel_rfl) Tryz.func12 B9v
  (of_decide_eq_true (by kernel_rfl)) (by unfold Func.isWrapper;first|(rw [if_pos (by decide +kernel)];kernel_rfl)|(rw [if_neg (by decide +kernel)];exact ⟨rfl,rfl⟩))
  (fun os started H enc _ F=>by rw [OpenClaim.pre_eq_preRow];exact B8t os started H enc F)
theorem C0x (f:FuncId) (fn:Func) (hf:Tryz.pinned.checked.prog.funcNamed Rows.paintLeastRow.func=some f) (hfn:Tryz.pinned.checked.prog.funcs[f]?=some fn) :
  true=Tryz.pinned.checked.prog.looks []∧∀ (j:Nat) t,fn.params[j]?=some t→Tryz.pinned.checked.prog.wantsStandIn t=false:=by
 obtain rfl:f=12:=Option.some.inj ((show Tryz.prog.funcNamed Rows.paintLeastRow.func=some 12 by kernel_rfl).symm.trans hf) |>.symm
 obtain rfl:fn=Tryz.f12:=(Option.some.inj (Tryz.func12.symm.trans hfn)).symm
 refine ⟨by kernel_rfl,fun j t ht=>?_⟩
 have hall:(Tryz.f12.params.toList.all fun t=>!(Tryz.pinned.checked.prog.wantsStandIn t))=true:=by kernel_rfl
 have:=List.all_eq_true.1 hall t (by simpa using Array.mem_of_getElem? ht)
 simpa using this
theorem paintLeast_card:Rows.PaintLeastCardSaid :=
 Claim7.holds_tied_plain_at .later [] _ _ _ _ C2x (fun _ h=>by cases h) (by kernel_rfl) (fun _ h=>by cases h) paintLeast_row_tie rfl ⟨rfl,rfl⟩ (by kernel_rfl) rfl C0x (by kernel_rfl)
end Go.Proofs.YtanighkpfmgnbaaGreatDoor
