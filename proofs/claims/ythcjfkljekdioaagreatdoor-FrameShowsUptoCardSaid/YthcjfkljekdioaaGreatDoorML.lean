/- Proved: frame.Shows returns the screen that shows any valid frame, and ErrFrame otherwise (fenestralaw23.FrameShows), where what is read is of bulk at most 1048576 -/
import Derived.Test.YthcjfkljekdioaaGreatDoorCards
import Derived.Test.YthcjfkljekdioaaGreatDoorTie
import Derived.Deep.DeepHandedRow
import Derived.SevenTiedAt
import Derived.Test.YthcjfkljekdioaaGreatDoorMC1
import Derived.Test.YthcjfkljekdioaaGreatDoorMX3
import Derived.Test.YthcjfkljekdioaaGreatDoorMLG
import Derived.Test.YthcjfkljekdioaaGreatDoorMLK
set_option linter.unusedVariables false
set_option linter.unusedSimpArgs false
set_option linter.unnecessarySimpa false
namespace Go.Proofs.YthcjfkljekdioaaGreatDoor
open Go Go.Fen
open Go.RowKit Go.ChangeShapes Go.ChangeAt Go.WideShapes
set_option maxRecDepth 100000 in
set_option maxHeartbeats 1000000 in
theorem B0b (H:Type) (enc:TypeId×Value→H) (W:World) (base:Nat) (args:Array Value) (ds gs:List (DataW H)) (before:List MemPlace)
  (hval:∀ (j:Nat) t v,Tryz.f6.params[j]?=some t→args[j]?=some v→Value.okWide Tryz.prog W .any base t v)
  (hW:DataW.Whole enc Tryz.prog Tryz.f6.params.toList Rows.frameShowsSpec.vars false W args.toList ds gs before) (hsm:Rows.uptoSmall H (ds++gs)=true) (hL:laidMetH Tryz.prog Rows.frameShowsUptoRow.laid W) :
  Calls Tryz.prog 6 args W fun e W'=>∃ v,e=.returned v∧Rows.frameShowsSpec.post enc Tryz.prog Tryz.f6 false true false false W args v W':=by
 have hW0:=hW
 obtain ⟨p,q,hA0,hV,rfl,hfz,hnd⟩:=hW
 have hgs:gs=[]:=by
  cases gs with
  | nil=>rfl
  | cons g gs=>exact hV.elim
 subst hgs
 have hA:DataW.TrodAll enc Tryz.prog W 0 (fun _=>true) true Tryz.f6.params.toList args.toList ds p:=hA0
 rw [Tryz.params6] at hA hval
 obtain ⟨v0,vs0,d0,ds0,p0,q0,ha0,hd0,hp0,t0,r0⟩:=trodAll_cons hA
 obtain ⟨en,dn,pn⟩:=trodAll_nil r0
 subst en dn
 subst hd0
 obtain rfl:args=#[v0]:=by cases args;simp_all
 have k0:=hval 0 26 v0 rfl rfl
 simp only [Value.okWide,Tryz.underlying26] at k0
 obtain ⟨c0,rfl,-,-⟩:=k0
 obtain ⟨fu0,t0⟩:=t0
 obtain ⟨a0Cols,a0Rowsq,a0Rowsk,a0Rowsrs,a0Rows,a0Cursor,a0Visible,a0Shape,a0Title,e0,hh0_0,hh0_1,hh0_2,hh0_3,hh0_4,hh0_5,hh0_6,hh0_7,hh0_8,hh0_9,hh0_10⟩:=D2x t0
 have ec0:c0=_:=Array.ext' (show c0.toList=(List.toArray _).toList from e0)
 subst ec0
 have hbulk:=bulks.bound hsm
 simp only [List.append_nil,Rows.uptoBulkAll] at hbulk
 have hlena0Title:=bulks.str_in (d:=d0) hh0_10
 have hlaid:laidMet Tryz.prog Rows.frameShowsUptoRow.laid W:=hL
 have htab0:(sl C0 (some ⟨0,0,none⟩) B3g).p (B3k W):=B8x (P:=Tryz.prog) (g:=0) (T:=165) (D:=D1y) (p:=fun _ a=>D4f a) (List.mem_of_getElem? (i:=5) rfl) (by kernel_rfl) (by kernel_rfl) C9u (sz:=2) (fun _=>rfl) (by kernel_rfl) Tryz.underlying165 (by kernel_rfl) C0a B7h (by kernel_rfl) hlaid
 have htab1:(sl C0 (some ⟨1,0,none⟩) C3x).p (B3k W):=B8x (P:=Tryz.prog) (g:=1) (T:=167) (D:=D1y) (p:=fun _ a=>D4f a) (List.mem_of_getElem? (i:=6) rfl) (by kernel_rfl) (by kernel_rfl) C9u (sz:=2) (fun _=>rfl) (by kernel_rfl) Tryz.underlying167 (by kernel_rfl) C0a B7h (by kernel_rfl) hlaid
 have hcon:=(B1g (⟨a0Cols,a0Cursor,a0Visible,a0Shape,a0Title⟩:FrmC) a0Rows a0Rowsq a0Rowsrs a0Rowsk hh0_3 (by first|omega|(simp only [List.length_take,List.length_drop,List.length_append,List.length_cons,List.length_nil,List.length_set,List.length_map];omega)|decide) (by first|omega|(simp only [List.length_take,List.length_drop,List.length_append,List.length_cons,List.length_nil,List.length_set,List.length_map];omega)|decide) (by first|omega|(simp only [List.length_nil];omega)|(dsimp only;omega)) true (B7c _ _ (fun r hr x hx=>(hh0_6 r hr x hx).2.2.2.1))).2 W (B3k W) (all_cons hh0_4 (all_cons hh0_5 (all_cons htab0 (all_cons htab1 D0z)))) (fun b o h=>h) ⟨(fun e he=>by cases he),List.nodup_nil⟩
 refine hcon.mono fun e W' ⟨x,he,hst⟩=>⟨_,he,?_⟩
 obtain ⟨h',hst⟩:=hst
 exact C7f (by kernel_rfl) (by kernel_rfl) rfl Tryz.underlying4 rfl hW0 (KeptBut.below hst.kept) rfl
noncomputable def A4f (os:Os):World :=
 {World.holding Tryz.prog os ⟨#[],#[],[]⟩ with heap:=(B1b (B1b (B1b (B1b (B1b (B1b (B1b (World.holding Tryz.prog os ⟨#[],#[],[]⟩).heap 2 (A1p Rows.laid_fenestra_sets_signs)) 6 (A1p Rows.laid_math_bits_deBruijn32tab)) 7 (A1p Rows.laid_math_bits_deBruijn64tab)) 4 (A1p Rows.laid_internal_strconv_uint64pow10)) 3 (A1p Rows.laid_fenestra_color_named)) 0 (A1p Rows.laid_fenestra_width_marks)) 1 (A1p Rows.laid_fenestra_width_wides))}
set_option maxRecDepth 100000 in
theorem B0c (os:Os):laidMet Tryz.prog Rows.frameShowsUptoRow.laid ((A4f os).forCall (fun _ _=>0) ⟨#[],#[(.agg #[.int .i64 0,.slice none 0 0,.int .i64 0,.int .i64 0,.bool false,.int .i64 0,.string ⟨#[]⟩]:Value)],[]⟩).memory :=
 laidMet_of_run' 8 (by kernel_rfl) (by kernel_rfl)
set_option maxRecDepth 100000 in
theorem B2z (os:Os) {H:Type} (enc:TypeId×Value→H):DataW.whole enc Tryz.prog ((A4f os).forCall (fun _ _=>0) ⟨#[],#[(.agg #[.int .i64 0,.slice none 0 0,.int .i64 0,.int .i64 0,.bool false,.int .i64 0,.string ⟨#[]⟩]:Value)],[]⟩).memory Tryz.f6.params.toList Rows.frameShowsSpec.vars false (#[(.agg #[.int .i64 0,.slice none 0 0,.int .i64 0,.int .i64 0,.bool false,.int .i64 0,.string ⟨#[]⟩]:Value)]:Array Value).toList 8=some ([.agg [.lit (.int .i64 0),.nil,.agg [.lit (.int .i64 0),.lit (.int .i64 0)],.lit (.bool false),.lit (.int .i64 0),.lit (.string [])]],[],[])∧Rows.uptoSmall H (([.agg [.lit (.int .i64 0),.nil,.agg [.lit (.int .i64 0),.lit (.int .i64 0)],.lit (.bool false),.lit (.int .i64 0),.lit (.string [])]]:List (DataW H))++[])=true :=
 ⟨by kernel_rfl,by kernel_rfl⟩
set_option maxRecDepth 100000 in
theorem B2e (os:Os) (started:os.Started) (H:Type) (enc:TypeId×Value→H) (F:Stop.Interp) :
  ReturnsInHanded {} Tryz.checked os 6 .any ((Rows.OpenSpec.upto Rows.frameShowsSpec).preRow enc Tryz.prog Tryz.f6 Rows.frameShowsUptoRow.domain false Rows.frameShowsUptoRow.laid) (((Rows.OpenSpec.upto Rows.frameShowsSpec).at F).post enc Tryz.prog Tryz.f6 false true false false):=by
 obtain ⟨hx,hsm⟩:=B2z os enc
 refine returnsInHanded_of_row (C:=Tryz.checked) (s:=Rows.OpenSpec.upto Rows.frameShowsSpec) (show ownKnob Tryz.prog.godebug=none by kernel_rfl) started (by kernel_rfl) Tryz.func6
  (witness_row_at (enc:=enc) (C:=Tryz.checked) false (A4f os) #[(.agg #[.int .i64 0,.slice none 0 0,.int .i64 0,.int .i64 0,.bool false,.int .i64 0,.string ⟨#[]⟩]:Value)] rfl (by kernel_rfl) (by kernel_rfl) (by kernel_rfl)
   (OpenSpec.preRow_of_cond 8 hx (by kernel_rfl) (fun k hk=>by cases hk;exact hsm) (by kernel_rfl) (B0c os))) ?_
 intro W base args ds gs before hval hW _ hcond _ hL _ _
 exact B0b H enc W base args ds gs before hval hW (hcond _ rfl) hL
theorem B4x:Rows.FrameShowsUptoSaid :=
 OpenClaim.holds_of_cond 6 Tryz.f6 rfl rfl rfl rfl rfl rfl rfl ⟨rfl,rfl,rfl,rfl,rfl⟩ rfl rfl rfl rfl rfl (by kernel_rfl) Tryz.func6 B2m
  (of_decide_eq_true (by kernel_rfl)) (by unfold Func.isWrapper;first|(rw [if_pos (by decide +kernel)];kernel_rfl)|(rw [if_neg (by decide +kernel)];exact ⟨rfl,rfl⟩))
  (fun os started H enc _ F=>by rw [OpenClaim.pre_eq_preRow];exact B2e os started H enc F)
theorem B3q (f:FuncId) (fn:Func) (hf:Tryz.pinned.checked.prog.funcNamed Rows.frameShowsUptoRow.func=some f) (hfn:Tryz.pinned.checked.prog.funcs[f]?=some fn) :
  true=Tryz.pinned.checked.prog.looks []∧∀ (j:Nat) t,fn.params[j]?=some t→Tryz.pinned.checked.prog.wantsStandIn t=false:=by
 obtain rfl:f=6:=Option.some.inj ((show Tryz.prog.funcNamed Rows.frameShowsUptoRow.func=some 6 by kernel_rfl).symm.trans hf) |>.symm
 obtain rfl:fn=Tryz.f6:=(Option.some.inj (Tryz.func6.symm.trans hfn)).symm
 refine ⟨by kernel_rfl,fun j t ht=>?_⟩
 have hall:(Tryz.f6.params.toList.all fun t=>!(Tryz.pinned.checked.prog.wantsStandIn t))=true:=by kernel_rfl
 have:=List.all_eq_true.1 hall t (by simpa using Array.mem_of_getElem? ht)
 simpa using this
theorem frameShows_card:Rows.FrameShowsUptoCardSaid :=
 Claim7.holds_tied_plain_at .later [] _ _ _ _ B4x (fun _ h=>by cases h) (by kernel_rfl) (fun _ h=>by cases h) frameShowsUpto_row_tie rfl ⟨rfl,rfl⟩ (by kernel_rfl) rfl B3q B4s
end Go.Proofs.YthcjfkljekdioaaGreatDoor
