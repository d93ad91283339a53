/- Proved: the law PaintParts holds (first form, no bound) -/
import Derived.Test.YtanighkpfmgnbaaGreatDoorCards
import Derived.Test.YtanighkpfmgnbaaGreatDoorTie
import Derived.Deep.DeepHandedRow
import Derived.SevenTiedAt
import Derived.Test.YtanighkpfmgnbaaGreatDoorMC1
import Derived.Test.YtanighkpfmgnbaaGreatDoorMN2
import Derived.Test.YtanighkpfmgnbaaGreatDoorMLK
set_option linter.unusedVariables false
set_option linter.unusedSimpArgs false
set_option linter.unnecessarySimpa false
namespace Go.Proofs.YtanighkpfmgnbaaGreatDoor
open Go Go.Fen
open Go.RowKit Go.ChangeShapes Go.ChangeAt Go.WideShapes
set_option maxRecDepth 100000 in
set_option maxHeartbeats 1000000 in
theorem B6e (H:Type) (enc:TypeId×Value→H) (W:World) (base:Nat) (args:Array Value) (ds gs:List (DataW H)) (before:List MemPlace)
  (hval:∀ (j:Nat) t v,Tryz.f13.params[j]?=some t→args[j]?=some v→Value.okWide Tryz.prog W .any base t v)
  (hW:DataW.Whole enc Tryz.prog Tryz.f13.params.toList Rows.paintPartsSpec.vars false W args.toList ds gs before) (hL:laidMetH Tryz.prog Rows.paintPartsRow.laid W) :
  Calls Tryz.prog 13 args W fun e W'=>∃ v,e=.returned v∧Rows.paintPartsSpec.post enc Tryz.prog Tryz.f13 false true false false W args v W':=by
 have hW0:=hW
 obtain ⟨p,q,hA0,hV,rfl,hfz,hnd⟩:=hW
 have hgs:gs=[]:=by
  cases gs with
  | nil=>rfl
  | cons g gs=>exact hV.elim
 subst hgs
 have hA:DataW.TrodAll enc Tryz.prog W 0 (fun _=>true) true Tryz.f13.params.toList args.toList ds p:=hA0
 rw [Tryz.params13] at hA hval
 obtain ⟨v0,vs0,d0,ds0,p0,q0,ha0,hd0,hp0,t0,r0⟩:=trodAll_cons hA
 obtain ⟨v1,vs1,d1,ds1,p1,q1,ha1,hd1,hp1,t1,r1⟩:=trodAll_cons r0
 obtain ⟨v2,vs2,d2,ds2,p2,q2,ha2,hd2,hp2,t2,r2⟩:=trodAll_cons r1
 obtain ⟨v3,vs3,d3,ds3,p3,q3,ha3,hd3,hp3,t3,r3⟩:=trodAll_cons r2
 obtain ⟨v4,vs4,d4,ds4,p4,q4,ha4,hd4,hp4,t4,r4⟩:=trodAll_cons r3
 obtain ⟨en,dn,pn⟩:=trodAll_nil r4
 subst en dn
 subst ha4 hd4
 subst ha3 hd3
 subst ha2 hd2
 subst ha1 hd1
 subst hd0
 obtain rfl:args=#[v0,v1,v2,v3,v4]:=by cases args;simp_all
 obtain ⟨fu0,t0⟩:=t0
 obtain ⟨a0q,a0k,a0,e0,hh0_0,hh0_1,hh0_3,hh0_2,_⟩:=E0u (c:=L9) (D:=E5w) (p:=fun _ a=>E5m a) E5g (sz:=12) (fun _=>rfl) (by kernel_rfl) (by decide) Tryz.underlying65 t0
 obtain rfl:v0=.slice a0q a0.length a0k:=by have:=hval 0 65 v0 rfl rfl;cases v0<;>simp_all [Value.cells,Value.okWide,Cell.okWide,Cell.ok,Tryz.underlying65]
 obtain ⟨fu1,t1⟩:=t1
 obtain ⟨a1,e1,-,hh1_0⟩:=(A0s Tryz.underlying3) t1
 obtain rfl:v1=iv a1:=by have:=hval 1 3 v1 rfl rfl;cases v1<;>simp_all [Value.cells,Value.okWide,Cell.okWide,Cell.ok,Tryz.underlying3,I3,D8l,E3w,cU8]
 obtain ⟨fu2,t2⟩:=t2
 obtain ⟨a2,e2,-,hh2_0⟩:=(A0s Tryz.underlying3) t2
 obtain rfl:v2=iv a2:=by have:=hval 2 3 v2 rfl rfl;cases v2<;>simp_all [Value.cells,Value.okWide,Cell.okWide,Cell.ok,Tryz.underlying3,I3,D8l,E3w,cU8]
 obtain ⟨fu3,t3⟩:=t3
 obtain ⟨a3,e3,-,hh3_0⟩:=(A0s Tryz.underlying3) t3
 obtain rfl:v3=iv a3:=by have:=hval 3 3 v3 rfl rfl;cases v3<;>simp_all [Value.cells,Value.okWide,Cell.okWide,Cell.ok,Tryz.underlying3,I3,D8l,E3w,cU8]
 have k4:=hval 4 67 v4 rfl rfl
 simp only [Value.okWide,Tryz.underlying67] at k4
 obtain ⟨c4,rfl,-,-⟩:=k4
 obtain ⟨fu4,t4⟩:=t4
 obtain ⟨a4,e4,-,pp4⟩:=E1s t4
 have ec4:c4=_:=Array.ext' (show c4.toList=(List.toArray _).toList from e4)
 subst ec4
 have hlaid:laidMet Tryz.prog Rows.paintPartsRow.laid W:=hL
 have htab0:(sl B3 (some ⟨0,0,none⟩) B9x).p (C0c W):=B2e (P:=Tryz.prog) (g:=0) (T:=185) (D:=D9v) (p:=fun _ a=>E3q a) (List.mem_of_getElem? (i:=5) rfl) (by kernel_rfl) (by kernel_rfl) D9s (sz:=2) (fun _=>rfl) (by kernel_rfl) Tryz.underlying185 (by kernel_rfl) C7q C3b (by kernel_rfl) hlaid
 have htab1:(sl B3 (some ⟨1,0,none⟩) D1m).p (C0c W):=B2e (P:=Tryz.prog) (g:=1) (T:=187) (D:=D9v) (p:=fun _ a=>E3q a) (List.mem_of_getElem? (i:=6) rfl) (by kernel_rfl) (by kernel_rfl) D9s (sz:=2) (fun _=>rfl) (by kernel_rfl) Tryz.underlying187 (by kernel_rfl) C7q C3b (by kernel_rfl) hlaid
 have htab4:(sl I3 (some ⟨4,0,none⟩) D5j).p (C0c W):=B2e (P:=Tryz.prog) (g:=4) (T:=288) (D:=B2u) (p:=fun _=>A9m) (List.mem_of_getElem? (i:=3) rfl) (by kernel_rfl) (by kernel_rfl) (A0s Tryz.underlying3) (sz:=1) (fun _=>rfl) (by kernel_rfl) Tryz.underlying288 (by kernel_rfl) D4r D2j (by kernel_rfl) hlaid
 have htab7:(sl cU8 (some ⟨7,0,none⟩) C7r).p (C0c W):=B2e (P:=Tryz.prog) (g:=7) (T:=315) (D:=dU8) (p:=fun _ _=>True) (List.mem_of_getElem? (i:=1) rfl) (by kernel_rfl) (by kernel_rfl) (E4k Tryz.underlying5) (sz:=1) (fun _=>rfl) (by kernel_rfl) Tryz.underlying315 (by kernel_rfl) D6z D5c (by kernel_rfl) hlaid
 have htab5:(E1j 5 B3d).p (C0c W):=D1v▸D9o (P:=Tryz.prog) (g:=5) (T:=309) (c:=E2j) (D:=E1n) (p:=fun _ _=>True) (List.mem_of_getElem? (i:=2) rfl) (by kernel_rfl) (by kernel_rfl) (E0f Tryz.underlying150) (sz:=1) (fun _=>rfl) (by kernel_rfl) Tryz.underlying309 (by kernel_rfl) D4n D2q (tab:=Lib.pow10Tab) (by kernel_rfl) hlaid
 have htab2:(sl I0 (some ⟨2,0,none⟩) E5y).p (C0c W):=B2e (P:=Tryz.prog) (g:=2) (T:=244) (D:=E3b) (p:=fun _ a=>E6g a) (List.mem_of_getElem? (i:=4) rfl) (by kernel_rfl) (by kernel_rfl) E2r (sz:=3) (fun _=>rfl) (by kernel_rfl) Tryz.underlying244 (by kernel_rfl) D4s D1r (by kernel_rfl) hlaid
 have hcon:=(B7f a0 a1 a2 a3 a4 a0q a0k (by first|omega|(simp only [List.length_take,List.length_drop,List.length_append,List.length_cons,List.length_nil,List.length_set,List.length_map];omega)|decide) (by first|omega|(simp only [List.length_take,List.length_drop,List.length_append,List.length_cons,List.length_nil,List.length_set,List.length_map];omega)|decide) true (C5a ..)).2 W (C0c W) (all_cons hh0_2 (all_cons htab0 (all_cons htab1 (all_cons htab4 (all_cons htab7 (all_cons htab5 (all_cons htab2 all_nil))))))) (fun b o h=>h) ⟨(fun e he=>by cases he),List.nodup_nil⟩
 refine hcon.mono fun e W' ⟨x,he,hst⟩=>⟨_,he,?_⟩
 obtain ⟨h',hst⟩:=hst
 exact D5p (by kernel_rfl) (by kernel_rfl) rfl Tryz.underlying4 rfl hW0 (KeptBut.below hst.kept) rfl
noncomputable def A8l (os:Os):World :=
 {World.holding Tryz.prog os ⟨#[],#[],[]⟩ with heap:=(B7b (B7b (B7b (B7b (B7b (B7b (B7b (World.holding Tryz.prog os ⟨#[],#[],[]⟩).heap 6 (A5n Rows.laid_math_bits_deBruijn32tab)) 7 (A5n Rows.laid_math_bits_deBruijn64tab)) 5 (A5n Rows.laid_internal_strconv_uint64pow10)) 4 (A5n Rows.laid_fenestra_color_named)) 2 (A5n Rows.laid_fenestra_sgr_attrs)) 0 (A5n Rows.laid_fenestra_width_marks)) 1 (A5n Rows.laid_fenestra_width_wides))}
set_option maxRecDepth 100000 in
theorem B6a (os:Os):laidMet Tryz.prog Rows.paintPartsRow.laid ((A8l os).forCall (fun _ _=>0) ⟨#[],#[(.slice none 0 0:Value),(.int .i64 0:Value),(.int .i64 0:Value),(.int .i64 0:Value),(.agg #[.int .i64 0,.int .i64 0,.int .i64 0,.int .i64 0,.int .i64 0,.int .i64 0,.int .i64 0,.int .i64 0]:Value)],[]⟩).memory :=
 laidMet_of_run' 8 (by kernel_rfl) (by kernel_rfl)
set_option maxRecDepth 100000 in
theorem C0a (os:Os) {H:Type} (enc:TypeId×Value→H):DataW.whole enc Tryz.prog ((A8l os).forCall (fun _ _=>0) ⟨#[],#[(.slice none 0 0:Value),(.int .i64 0:Value),(.int .i64 0:Value),(.int .i64 0:Value),(.agg #[.int .i64 0,.int .i64 0,.int .i64 0,.int .i64 0,.int .i64 0,.int .i64 0,.int .i64 0,.int .i64 0]:Value)],[]⟩).memory Tryz.f13.params.toList Rows.paintPartsSpec.vars false (#[(.slice none 0 0:Value),(.int .i64 0:Value),(.int .i64 0:Value),(.int .i64 0:Value),(.agg #[.int .i64 0,.int .i64 0,.int .i64 0,.int .i64 0,.int .i64 0,.int .i64 0,.int .i64 0,.int .i64 0]:Value)]:Array Value).toList 8=some ([.nil,.lit (.int .i64 0),.lit (.int .i64 0),.lit (.int .i64 0),.agg [.lit (.int .i64 0),.lit (.int .i64 0),.agg [.lit (.int .i64 0),.lit (.int .i64 0)],.agg [.lit (.int .i64 0),.lit (.int .i64 0)],.agg [.lit (.int .i64 0),.lit (.int .i64 0)]]],[],[])∧Rows.uptoSmall H (([.nil,.lit (.int .i64 0),.lit (.int .i64 0),.lit (.int .i64 0),.agg [.lit (.int .i64 0),.lit (.int .i64 0),.agg [.lit (.int .i64 0),.lit (.int .i64 0)],.agg [.lit (.int .i64 0),.lit (.int .i64 0)],.agg [.lit (.int .i64 0),.lit (.int .i64 0)]]]:List (DataW H))++[])=true :=
 ⟨by kernel_rfl,by kernel_rfl⟩
set_option maxRecDepth 100000 in
theorem B9d (os:Os) (started:os.Started) (H:Type) (enc:TypeId×Value→H) (F:Stop.Interp) :
  ReturnsInHanded {} Tryz.checked os 13 .any ((OpenSpec.ofChange Rows.paintPartsSpec).preRow enc Tryz.prog Tryz.f13 Rows.paintPartsRow.domain false Rows.paintPartsRow.laid) (((OpenSpec.ofChange Rows.paintPartsSpec).at F).post enc Tryz.prog Tryz.f13 false true false false):=by
 obtain ⟨hx,hsm⟩:=C0a os enc
 refine returnsInHanded_of_row (C:=Tryz.checked) (s:=OpenSpec.ofChange Rows.paintPartsSpec) (show ownKnob Tryz.prog.godebug=none by kernel_rfl) started (by kernel_rfl) Tryz.func13
  (witness_row_at (enc:=enc) (C:=Tryz.checked) false (A8l os) #[(.slice none 0 0:Value),(.int .i64 0:Value),(.int .i64 0:Value),(.int .i64 0:Value),(.agg #[.int .i64 0,.int .i64 0,.int .i64 0,.int .i64 0,.int .i64 0,.int .i64 0,.int .i64 0,.int .i64 0]:Value)] rfl (by kernel_rfl) (by kernel_rfl) (by kernel_rfl)
   (OpenSpec.preRow_of_cond 8 hx (by kernel_rfl) (fun k hk=>by cases hk) (by kernel_rfl) (B6a os))) ?_
 intro W base args ds gs before hval hW _ hcond _ hL _ _
 exact B6e H enc W base args ds gs before hval hW hL
theorem C2b:Rows.PaintPartsSaid :=
 OpenClaim.holds_of_cond 13 Tryz.f13 rfl rfl rfl rfl rfl rfl rfl ⟨rfl,rfl,rfl,rfl,rfl⟩ rfl rfl rfl rfl rfl (by kernel_rfl) Tryz.func13 B9b
  (of_decide_eq_true (by kernel_rfl)) (by unfold Func.isWrapper;first|(rw [if_pos (by decide +kernel)];kernel_rfl)|(rw [if_neg (by decide +kernel)];exact ⟨rfl,rfl⟩))
  (fun os started H enc _ F=>by rw [OpenClaim.pre_eq_preRow];exact B9d os started H enc F)
theorem C0t (f:FuncId) (fn:Func) (hf:Tryz.pinned.checked.prog.funcNamed Rows.paintPartsRow.func=some f) (hfn:Tryz.pinned.checked.prog.funcs[f]?=some fn) :
  true=Tryz.pinned.checked.prog.looks []∧∀ (j:Nat) t,fn.params[j]?=some t→Tryz.pinned.checked.prog.wantsStandIn t=false:=by
 obtain rfl:f=13:=Option.some.inj ((show Tryz.prog.funcNamed Rows.paintPartsRow.func=some 13 by kernel_rfl).symm.trans hf) |>.symm
 obtain rfl:fn=Tryz.f13:=(Option.some.inj (Tryz.func13.symm.trans hfn)).symm
 refine ⟨by kernel_rfl,fun j t ht=>?_⟩
 have hall:(Tryz.f13.params.toList.all fun t=>!(Tryz.pinned.checked.prog.wantsStandIn t))=true:=by kernel_rfl
 have:=List.all_eq_true.1 hall t (by simpa using Array.mem_of_getElem? ht)
 simpa using this
theorem paintParts_card:Rows.PaintPartsCardSaid :=
 Claim7.holds_tied_plain_at .later [] _ _ _ _ C2b (fun _ h=>by cases h) (by kernel_rfl) (fun _ h=>by cases h) paintParts_row_tie rfl ⟨rfl,rfl⟩ (by kernel_rfl) rfl C0t (by kernel_rfl)
end Go.Proofs.YtanighkpfmgnbaaGreatDoor
