/- Proved: after frame.Put the pasted region has the cells of the pasted frame, cells outside that are not halves of wide cells are unchanged, and all results are valid (fenestralaw23.FrameWithin), where what is read is of bulk at most 1048576 -/
import Derived.Test.YthcjfkljekdioaaGreatDoorCards
import Derived.Test.YthcjfkljekdioaaGreatDoorTie
import Derived.Deep.DeepHandedRow
import Derived.SevenTiedAt
import Derived.Test.YthcjfkljekdioaaGreatDoorMC1
import Derived.Test.YthcjfkljekdioaaGreatDoorMX2
import Derived.Test.YthcjfkljekdioaaGreatDoorMLG
import Derived.Test.YthcjfkljekdioaaGreatDoorMLK
set_option linter.unusedVariables false
set_option linter.unusedSimpArgs false
set_option linter.unnecessarySimpa false
namespace Go.Proofs.YthcjfkljekdioaaGreatDoor
open Go Go.Fen
open Go.RowKit Go.ChangeShapes Go.ChangeAt Go.WideShapes
set_option maxRecDepth 100000 in
set_option maxHeartbeats 1000000 in
theorem A4z (H:Type) (enc:TypeId×Value→H) (W:World) (base:Nat) (args:Array Value) (ds gs:List (DataW H)) (before:List MemPlace)
  (hval:∀ (j:Nat) t v,Tryz.f10.params[j]?=some t→args[j]?=some v→Value.okWide Tryz.prog W .any base t v)
  (hW:DataW.Whole enc Tryz.prog Tryz.f10.params.toList Rows.frameWithinSpec.vars false W args.toList ds gs before) (hsm:Rows.uptoSmall H (ds++gs)=true) (hL:laidMetH Tryz.prog Rows.frameWithinUptoRow.laid W) :
  Calls Tryz.prog 10 args W fun e W'=>∃ v,e=.returned v∧Rows.frameWithinSpec.post enc Tryz.prog Tryz.f10 false true false false W args v W':=by
 have hW0:=hW
 obtain ⟨p,q,hA0,hV,rfl,hfz,hnd⟩:=hW
 have hgs:gs=[]:=by
  cases gs with
  | nil=>rfl
  | cons g gs=>exact hV.elim
 subst hgs
 have hA:DataW.TrodAll enc Tryz.prog W 0 (fun _=>true) true Tryz.f10.params.toList args.toList ds p:=hA0
 rw [Tryz.params10] at hA hval
 obtain ⟨v0,vs0,d0,ds0,p0,q0,ha0,hd0,hp0,t0,r0⟩:=trodAll_cons hA
 obtain ⟨v1,vs1,d1,ds1,p1,q1,ha1,hd1,hp1,t1,r1⟩:=trodAll_cons r0
 obtain ⟨v2,vs2,d2,ds2,p2,q2,ha2,hd2,hp2,t2,r2⟩:=trodAll_cons r1
 obtain ⟨en,dn,pn⟩:=trodAll_nil r2
 subst en dn
 subst ha2 hd2
 subst ha1 hd1
 subst hd0
 obtain rfl:args=#[v0,v1,v2]:=by cases args;simp_all
 have k0:=hval 0 26 v0 rfl rfl
 simp only [Value.okWide,Tryz.underlying26] at k0
 obtain ⟨c0,rfl,-,-⟩:=k0
 obtain ⟨fu0,t0⟩:=t0
 obtain ⟨a0Cols,a0Rowsq,a0Rowsk,a0Rowsrs,a0Rows,a0Cursor,a0Visible,a0Shape,a0Title,e0,hh0_0,hh0_1,hh0_2,hh0_3,hh0_4,hh0_5,hh0_6,hh0_7,hh0_8,hh0_9,hh0_10⟩:=C1u t0
 have ec0:c0=_:=Array.ext' (show c0.toList=(List.toArray _).toList from e0)
 subst ec0
 have k1:=hval 1 26 v1 rfl rfl
 simp only [Value.okWide,Tryz.underlying26] at k1
 obtain ⟨c1,rfl,-,-⟩:=k1
 obtain ⟨fu1,t1⟩:=t1
 obtain ⟨a1Cols,a1Rowsq,a1Rowsk,a1Rowsrs,a1Rows,a1Cursor,a1Visible,a1Shape,a1Title,e1,hh1_0,hh1_1,hh1_2,hh1_3,hh1_4,hh1_5,hh1_6,hh1_7,hh1_8,hh1_9,hh1_10⟩:=C1u t1
 have ec1:c1=_:=Array.ext' (show c1.toList=(List.toArray _).toList from e1)
 subst ec1
 have k2:=hval 2 24 v2 rfl rfl
 simp only [Value.okWide,Tryz.underlying24] at k2
 obtain ⟨c2,rfl,-,-⟩:=k2
 obtain ⟨fu2,t2⟩:=t2
 obtain ⟨a2,e2,-,pp2⟩:=C4m t2
 have ec2:c2=_:=Array.ext' (show c2.toList=(List.toArray _).toList from e2)
 subst ec2
 have hbulk:=bulks.bound hsm
 simp only [List.append_nil,Rows.uptoBulkAll] at hbulk
 have hlena0Title:=bulks.str_in (d:=d0) hh0_10
 have hlena1Title:=bulks.str_in (d:=d1) hh1_10
 have hlaid:laidMet Tryz.prog Rows.frameWithinUptoRow.laid W:=hL
 have htab0:(sl C0 (some ⟨0,0,none⟩) B2h).p (A8x W):=B3x (P:=Tryz.prog) (g:=0) (T:=165) (D:=C3y) (p:=fun _ a=>C6j a) (List.mem_of_getElem? (i:=5) rfl) (by kernel_rfl) (by kernel_rfl) C1b (sz:=2) (fun _=>rfl) (by kernel_rfl) Tryz.underlying165 (by kernel_rfl) B5g B0x (by kernel_rfl) hlaid
 have htab1:(sl C0 (some ⟨1,0,none⟩) C2d).p (A8x W):=B3x (P:=Tryz.prog) (g:=1) (T:=167) (D:=C3y) (p:=fun _ a=>C6j a) (List.mem_of_getElem? (i:=6) rfl) (by kernel_rfl) (by kernel_rfl) C1b (sz:=2) (fun _=>rfl) (by kernel_rfl) Tryz.underlying167 (by kernel_rfl) B5g B0x (by kernel_rfl) hlaid
 have hcon:=(A5x (⟨a0Cols,a0Cursor,a0Visible,a0Shape,a0Title⟩:FrmC) a0Rows (⟨a1Cols,a1Cursor,a1Visible,a1Shape,a1Title⟩:FrmC) a1Rows a2 a0Rowsq a0Rowsrs a0Rowsk a1Rowsq a1Rowsrs a1Rowsk hh0_3 (by first|omega|(simp only [List.length_take,List.length_drop,List.length_append,List.length_cons,List.length_nil,List.length_set,List.length_map];omega)|decide) (by first|omega|(simp only [List.length_take,List.length_drop,List.length_append,List.length_cons,List.length_nil,List.length_set,List.length_map];omega)|decide) hh1_3 (by first|omega|(simp only [List.length_take,List.length_drop,List.length_append,List.length_cons,List.length_nil,List.length_set,List.length_map];omega)|decide) (by first|omega|(simp only [List.length_take,List.length_drop,List.length_append,List.length_cons,List.length_nil,List.length_set,List.length_map];omega)|decide) (by first|omega|(simp only [List.length_nil];omega)|(dsimp only;omega)) (by first|omega|(dsimp only;omega)) true (B0f ..)).2 W (A8x W) (all_cons hh0_4 (all_cons hh0_5 (all_cons hh1_4 (all_cons hh1_5 (all_cons htab0 (all_cons htab1 C3z)))))) (fun b o h=>h) ⟨(fun e he=>by cases he),List.nodup_nil⟩
 refine hcon.mono fun e W' ⟨x,he,hst⟩=>⟨_,he,?_⟩
 obtain ⟨h',hst⟩:=hst
 exact C0d (by kernel_rfl) (by kernel_rfl) rfl Tryz.underlying4 rfl hW0 (KeptBut.below hst.kept) rfl
noncomputable def A0h (os:Os):World :=
 {World.holding Tryz.prog os ⟨#[],#[],[]⟩ with heap:=(A6u (A6u (A6u (A6u (A6u (A6u (A6u (World.holding Tryz.prog os ⟨#[],#[],[]⟩).heap 2 (X1 Rows.laid_fenestra_sets_signs)) 6 (X1 Rows.laid_math_bits_deBruijn32tab)) 7 (X1 Rows.laid_math_bits_deBruijn64tab)) 4 (X1 Rows.laid_internal_strconv_uint64pow10)) 3 (X1 Rows.laid_fenestra_color_named)) 0 (X1 Rows.laid_fenestra_width_marks)) 1 (X1 Rows.laid_fenestra_width_wides))}
set_option maxRecDepth 100000 in
theorem A4y (os:Os):laidMet Tryz.prog Rows.frameWithinUptoRow.laid ((A0h os).forCall (fun _ _=>0) ⟨#[],#[(.agg #[.int .i64 0,.slice none 0 0,.int .i64 0,.int .i64 0,.bool false,.int .i64 0,.string ⟨#[]⟩]:Value),(.agg #[.int .i64 0,.slice none 0 0,.int .i64 0,.int .i64 0,.bool false,.int .i64 0,.string ⟨#[]⟩]:Value),(.agg #[.int .i64 0,.int .i64 0]:Value)],[]⟩).memory :=
 laidMet_of_run' 8 (by kernel_rfl) (by kernel_rfl)
set_option maxRecDepth 100000 in
theorem A7e (os:Os) {H:Type} (enc:TypeId×Value→H):DataW.whole enc Tryz.prog ((A0h os).forCall (fun _ _=>0) ⟨#[],#[(.agg #[.int .i64 0,.slice none 0 0,.int .i64 0,.int .i64 0,.bool false,.int .i64 0,.string ⟨#[]⟩]:Value),(.agg #[.int .i64 0,.slice none 0 0,.int .i64 0,.int .i64 0,.bool false,.int .i64 0,.string ⟨#[]⟩]:Value),(.agg #[.int .i64 0,.int .i64 0]:Value)],[]⟩).memory Tryz.f10.params.toList Rows.frameWithinSpec.vars false (#[(.agg #[.int .i64 0,.slice none 0 0,.int .i64 0,.int .i64 0,.bool false,.int .i64 0,.string ⟨#[]⟩]:Value),(.agg #[.int .i64 0,.slice none 0 0,.int .i64 0,.int .i64 0,.bool false,.int .i64 0,.string ⟨#[]⟩]:Value),(.agg #[.int .i64 0,.int .i64 0]:Value)]:Array Value).toList 8=some ([.agg [.lit (.int .i64 0),.nil,.agg [.lit (.int .i64 0),.lit (.int .i64 0)],.lit (.bool false),.lit (.int .i64 0),.lit (.string [])],.agg [.lit (.int .i64 0),.nil,.agg [.lit (.int .i64 0),.lit (.int .i64 0)],.lit (.bool false),.lit (.int .i64 0),.lit (.string [])],.agg [.lit (.int .i64 0),.lit (.int .i64 0)]],[],[])∧Rows.uptoSmall H (([.agg [.lit (.int .i64 0),.nil,.agg [.lit (.int .i64 0),.lit (.int .i64 0)],.lit (.bool false),.lit (.int .i64 0),.lit (.string [])],.agg [.lit (.int .i64 0),.nil,.agg [.lit (.int .i64 0),.lit (.int .i64 0)],.lit (.bool false),.lit (.int .i64 0),.lit (.string [])],.agg [.lit (.int .i64 0),.lit (.int .i64 0)]]:List (DataW H))++[])=true :=
 ⟨by kernel_rfl,by kernel_rfl⟩
set_option maxRecDepth 100000 in
theorem A6m (os:Os) (started:os.Started) (H:Type) (enc:TypeId×Value→H) (F:Stop.Interp) :
  ReturnsInHanded {} Tryz.checked os 10 .any ((Rows.OpenSpec.upto Rows.frameWithinSpec).preRow enc Tryz.prog Tryz.f10 Rows.frameWithinUptoRow.domain false Rows.frameWithinUptoRow.laid) (((Rows.OpenSpec.upto Rows.frameWithinSpec).at F).post enc Tryz.prog Tryz.f10 false true false false):=by
 obtain ⟨hx,hsm⟩:=A7e os enc
 refine returnsInHanded_of_row (C:=Tryz.checked) (s:=Rows.OpenSpec.upto Rows.frameWithinSpec) (show ownKnob Tryz.prog.godebug=none by kernel_rfl) started (by kernel_rfl) Tryz.func10
  (witness_row_at (enc:=enc) (C:=Tryz.checked) false (A0h os) #[(.agg #[.int .i64 0,.slice none 0 0,.int .i64 0,.int .i64 0,.bool false,.int .i64 0,.string ⟨#[]⟩]:Value),(.agg #[.int .i64 0,.slice none 0 0,.int .i64 0,.int .i64 0,.bool false,.int .i64 0,.string ⟨#[]⟩]:Value),(.agg #[.int .i64 0,.int .i64 0]:Value)] rfl (by kernel_rfl) (by kernel_rfl) (by kernel_rfl)
   (OpenSpec.preRow_of_cond 8 hx (by kernel_rfl) (fun k hk=>by cases hk;exact hsm) (by kernel_rfl) (A4y os))) ?_
 intro W base args ds gs before hval hW _ hcond _ hL _ _
 exact A4z H enc W base args ds gs before hval hW (hcond _ rfl) hL
theorem A8k:Rows.FrameWithinUptoSaid :=
 OpenClaim.holds_of_cond 10 Tryz.f10 rfl rfl rfl rfl rfl rfl rfl ⟨rfl,rfl,rfl,rfl,rfl⟩ rfl rfl rfl rfl rfl (by kernel_rfl) Tryz.func10 A6n
  (of_decide_eq_true (by kernel_rfl)) (by unfold Func.isWrapper;first|(rw [if_pos (by decide +kernel)];kernel_rfl)|(rw [if_neg (by decide +kernel)];exact ⟨rfl,rfl⟩))
  (fun os started H enc _ F=>by rw [OpenClaim.pre_eq_preRow];exact A6m os started H enc F)
theorem A7w (f:FuncId) (fn:Func) (hf:Tryz.pinned.checked.prog.funcNamed Rows.frameWithinUptoRow.func=some f) (hfn:Tryz.pinned.checked.prog.funcs[f]?=some fn) :
  true=Tryz.pinned.checked.prog.looks []∧∀ (j:Nat) t,fn.params[j]?=some t→Tryz.pinned.checked.prog.wantsStandIn t=false:=by
 obtain rfl:f=10:=Option.some.inj ((show Tryz.prog.funcNamed Rows.frameWithinUptoRow.func=some 10 by kernel_rfl).symm.trans hf) |>.symm
 obtain rfl:fn=Tryz.f10:=(Option.some.inj (Tryz.func10.symm.trans hfn)).symm
 refine ⟨by kernel_rfl,fun j t ht=>?_⟩
 have hall:(Tryz.f10.params.toList.all fun t=>!(Tryz.pinned.checked.prog.wantsStandIn t))=true:=by kernel_rfl
 have:=List.all_eq_true.1 hall t (by simpa using Array.mem_of_getElem? ht)
 simpa using this
theorem frameWithin_card:Rows.FrameWithinUptoCardSaid :=
 Claim7.holds_tied_plain_at .later [] _ _ _ _ A8k (fun _ h=>by cases h) (by kernel_rfl) (fun _ h=>by cases h) frameWithinUpto_row_tie rfl ⟨rfl,rfl⟩ (by kernel_rfl) rfl A7w A9b
end Go.Proofs.YthcjfkljekdioaaGreatDoor
