/- Proved: frame.Of returns the frame of any valid screen, and an error otherwise (fenestralaw23.FrameSees), where what is read is of bulk at most 1048576 -/
import Derived.Test.YthcjfkljekdioaaGreatDoorCards
import Derived.Test.YthcjfkljekdioaaGreatDoorTie
import Derived.Deep.DeepHandedRow
import Derived.SevenTiedAt
import Derived.Test.YthcjfkljekdioaaGreatDoorMC1
import Derived.Test.YthcjfkljekdioaaGreatDoorMX3
import Derived.Test.YthcjfkljekdioaaGreatDoorMLG
import Derived.Test.YthcjfkljekdioaaGreatDoorMLK
set_option linter.unusedVariables false
set_option linter.unusedSimpArgs false
set_option linter.unnecessarySimpa false
namespace Go.Proofs.YthcjfkljekdioaaGreatDoor
open Go Go.Fen
open Go.RowKit Go.ChangeShapes Go.ChangeAt Go.WideShapes
abbrev A5f:Value:=.agg (List.toArray ([.int .i64 0,.int .i64 0,.slice none 0 0,.slice none 0 0,.bool false,.slice none 0 0,.int .i64 0,.int .i64 0,.bool false,.int .i64 0,.int .i64 0,.int .i64 0,.int .i64 0,.int .i64 0,.int .i64 0,.int .i64 0,.int .i64 0,.int .i64 0,.int .i64 0,.int .i64 0]++([.int .i64 0,.int .i64 0,.int .i64 0,.bool false,.bool false,.bool false,.bool false,.bool false,.bool false,.bool false,.bool false,.bool false,.bool false,.bool false,.int .i64 0,.bool false,.int .i64 0,.int .i64 0,.slice none 0 0,.bool false]++([.int .i64 0,.int .i64 0,.bool false,.int .i64 0,.int .i64 0,.int .i64 0,.int .i64 0,.int .i64 0,.int .i64 0,.int .i64 0,.int .i64 0,.int .i64 0,.int .i64 0,.int .i64 0,.int .i64 0,.int .i64 0,.int .i64 0,.bool false,.bool false,.int .i64 0]++([.int .i64 0,.bool false,.int .i64 0,.int .i64 0,.int .i64 0,.int .i64 0,.int .i64 0,.int .i64 0,.int .i64 0,.int .i64 0,.int .i64 0,.int .i64 0,.int .i64 0,.int .i64 0,.int .i64 0,.int .i64 0,.bool false,.int .i64 0,.string ⟨#[]⟩,.int .i64 0])))))
set_option maxRecDepth 100000 in
set_option maxHeartbeats 1000000 in
theorem B1h (H:Type) (enc:TypeId×Value→H) (W:World) (base:Nat) (args:Array Value) (ds gs:List (DataW H)) (before:List MemPlace)
  (hval:∀ (j:Nat) t v,Tryz.f5.params[j]?=some t→args[j]?=some v→Value.okWide Tryz.prog W .any base t v)
  (hW:DataW.Whole enc Tryz.prog Tryz.f5.params.toList Rows.frameSeesSpec.vars false W args.toList ds gs before) (hsm:Rows.uptoSmall H (ds++gs)=true) (hL:laidMetH Tryz.prog Rows.frameSeesUptoRow.laid W) :
  Calls Tryz.prog 5 args W fun e W'=>∃ v,e=.returned v∧Rows.frameSeesSpec.post enc Tryz.prog Tryz.f5 false true false false W args v W':=by
 have hW0:=hW
 obtain ⟨p,q,hA0,hV,rfl,hfz,hnd⟩:=hW
 have hgs:gs=[]:=by
  cases gs with
  | nil=>rfl
  | cons g gs=>exact hV.elim
 subst hgs
 have hA:DataW.TrodAll enc Tryz.prog W 0 (fun _=>true) true Tryz.f5.params.toList args.toList ds p:=hA0
 rw [Tryz.params5] at hA hval
 obtain ⟨v0,vs0,d0,ds0,p0,q0,ha0,hd0,hp0,t0,r0⟩:=trodAll_cons hA
 obtain ⟨en,dn,pn⟩:=trodAll_nil r0
 subst en dn
 subst hd0
 obtain rfl:args=#[v0]:=by cases args;simp_all
 have k0:=hval 0 52 v0 rfl rfl
 simp only [Value.okWide,Tryz.underlying52] at k0
 obtain ⟨c0,rfl,-,-⟩:=k0
 obtain ⟨fu0,t0⟩:=t0
 obtain ⟨a0Cols,a0Rows,a0Mainq,a0Maink,a0Mainrs,a0Main,a0Altq,a0Altk,a0Altrs,a0Alt,a0OnAlt,a0Pastq,a0Pastk,a0Pastrs,a0Past,a0Cursor,a0Style,a0Sets,a0Modes,a0Top,a0Bottom,a0Tabsq,a0Tabsk,a0Tabs,a0Kept,a0KeptAlt,a0Shape,a0Title,a0Last,e0,hh0_0,hh0_1,hh0_2,hh0_3,hh0_4,hh0_5,hh0_6,hh0_7,hh0_8,hh0_9,hh0_10,hh0_11,hh0_12,hh0_13,hh0_14,hh0_15,hh0_16,hh0_17,hh0_18,hh0_19,hh0_20,hh0_21,hh0_22,hh0_23,hh0_24,hh0_25,hh0_26,hh0_27,hh0_28,hh0_29,hh0_30,hh0_31,hh0_32,hh0_33,hh0_34⟩:=D2k t0
 have ec0:c0=_:=Array.ext' (show c0.toList=(List.toArray _).toList from e0)
 subst ec0
 have hbulk:=bulks.bound hsm
 simp only [List.append_nil,Rows.uptoBulkAll] at hbulk
 have hlena0Title:=bulks.str_in (d:=d0) hh0_33
 have hlaid:laidMet Tryz.prog Rows.frameSeesUptoRow.laid W:=hL
 have htab0:(sl C5 (some ⟨0,0,none⟩) B3t).p (A9e W):=B9c (P:=Tryz.prog) (g:=0) (T:=165) (D:=D0b) (p:=fun _ a=>D4k a) (List.mem_of_getElem? (i:=5) rfl) (by kernel_rfl) (by kernel_rfl) C8a (sz:=2) (fun _=>rfl) (by kernel_rfl) Tryz.underlying165 (by kernel_rfl) C1c B6k (by kernel_rfl) hlaid
 have htab1:(sl C5 (some ⟨1,0,none⟩) C4k).p (A9e W):=B9c (P:=Tryz.prog) (g:=1) (T:=167) (D:=D0b) (p:=fun _ a=>D4k a) (List.mem_of_getElem? (i:=6) rfl) (by kernel_rfl) (by kernel_rfl) C8a (sz:=2) (fun _=>rfl) (by kernel_rfl) Tryz.underlying167 (by kernel_rfl) C1c B6k (by kernel_rfl) hlaid
 have hcon:=(B3j (⟨a0Cols,a0Rows,a0OnAlt,a0Cursor,a0Style,a0Sets,a0Modes,a0Top,a0Bottom,a0Kept,a0KeptAlt,a0Shape,a0Title,a0Last⟩:ScrC) a0Main a0Alt a0Past a0Tabs a0Mainq a0Mainrs a0Maink a0Altq a0Altrs a0Altk a0Pastq a0Pastrs a0Pastk a0Tabsq a0Tabsk hh0_4 (by first|omega|(simp only [List.length_take,List.length_drop,List.length_append,List.length_cons,List.length_nil,List.length_set,List.length_map];omega)|decide) (by first|omega|(simp only [List.length_take,List.length_drop,List.length_append,List.length_cons,List.length_nil,List.length_set,List.length_map];omega)|decide) hh0_10 (by first|omega|(simp only [List.length_take,List.length_drop,List.length_append,List.length_cons,List.length_nil,List.length_set,List.length_map];omega)|decide) (by first|omega|(simp only [List.length_take,List.length_drop,List.length_append,List.length_cons,List.length_nil,List.length_set,List.length_map];omega)|decide) hh0_16 (by first|omega|(simp only [List.length_take,List.length_drop,List.length_append,List.length_cons,List.length_nil,List.length_set,List.length_map];omega)|decide) (by first|omega|(simp only [List.length_take,List.length_drop,List.length_append,List.length_cons,List.length_nil,List.length_set,List.length_map];omega)|decide) (by first|omega|(simp only [List.length_take,List.length_drop,List.length_append,List.length_cons,List.length_nil,List.length_set,List.length_map];omega)|decide) (by first|omega|(simp only [List.length_take,List.length_drop,List.length_append,List.length_cons,List.length_nil,List.length_set,List.length_map];omega)|decide) (by first|omega|(simp only [List.length_nil];omega)|(dsimp only;omega)) true (B8b _ _ _ _ _ (fun r hr x hx=>(hh0_7 r hr x hx).2.2.2.1) (fun r hr x hx=>(hh0_13 r hr x hx).2.2.2.1) (fun r hr x hx=>(hh0_19 r hr x hx).2.2.2.1) hh0_21.1 hh0_22.2.1 hh0_29.2.1.1 hh0_29.2.2.2.1 hh0_30.2.1.1 hh0_30.2.2.2.1)).2 W (A9e W) (all_cons hh0_5 (all_cons hh0_6 (all_cons hh0_11 (all_cons hh0_12 (all_cons hh0_17 (all_cons hh0_18 (all_cons hh0_28 (all_cons htab0 (all_cons htab1 D0x))))))))) (fun b o h=>h) ⟨(fun e he=>by cases he),List.nodup_nil⟩
 refine hcon.mono fun e W' ⟨x,he,hst⟩=>⟨_,he,?_⟩
 obtain ⟨h',hst⟩:=hst
 exact C6w (by kernel_rfl) (by kernel_rfl) rfl Tryz.underlying4 rfl hW0 (KeptBut.below hst.kept) rfl
noncomputable def A5z (os:Os):World :=
 {World.holding Tryz.prog os ⟨#[],#[],[]⟩ with heap:=(B1o (B1o (B1o (B1o (B1o (B1o (B1o (World.holding Tryz.prog os ⟨#[],#[],[]⟩).heap 2 (A2d Rows.laid_fenestra_sets_signs)) 6 (A2d Rows.laid_math_bits_deBruijn32tab)) 7 (A2d Rows.laid_math_bits_deBruijn64tab)) 4 (A2d Rows.laid_internal_strconv_uint64pow10)) 3 (A2d Rows.laid_fenestra_color_named)) 0 (A2d Rows.laid_fenestra_width_marks)) 1 (A2d Rows.laid_fenestra_width_wides))}
set_option maxRecDepth 100000 in
theorem B1x (os:Os):laidMet Tryz.prog Rows.frameSeesUptoRow.laid ((A5z os).forCall (fun _ _=>0) ⟨#[],#[A5f],[]⟩).memory :=
 laidMet_of_run' 8 (by kernel_rfl) (by kernel_rfl)
set_option maxRecDepth 100000 in
theorem B5i (os:Os) {H:Type} (enc:TypeId×Value→H):DataW.whole enc Tryz.prog ((A5z os).forCall (fun _ _=>0) ⟨#[],#[A5f],[]⟩).memory Tryz.f5.params.toList Rows.frameSeesSpec.vars false (#[A5f]:Array Value).toList 8=some ([.agg [.lit (.int .i64 0),.lit (.int .i64 0),.nil,.nil,.lit (.bool false),.nil,.agg [.lit (.int .i64 0),.lit (.int .i64 0),.lit (.bool false)],.agg [.lit (.int .i64 0),.lit (.int .i64 0),.agg [.lit (.int .i64 0),.lit (.int .i64 0)],.agg [.lit (.int .i64 0),.lit (.int .i64 0)],.agg [.lit (.int .i64 0),.lit (.int .i64 0)]],.agg [.agg [.lit (.int .i64 0),.lit (.int .i64 0),.lit (.int .i64 0),.lit (.int .i64 0)],.lit (.int .i64 0),.lit (.int .i64 0)],.agg [.lit (.bool false),.lit (.bool false),.lit (.bool false),.lit (.bool false),.lit (.bool false),.lit (.bool false),.lit (.bool false),.lit (.bool false),.lit (.bool false),.lit (.bool false),.lit (.bool false),.lit (.int .i64 0),.lit (.bool false)],.lit (.int .i64 0),.lit (.int .i64 0),.nil,.agg [.lit (.bool false),.agg [.lit (.int .i64 0),.lit (.int .i64 0),.lit (.bool false)],.agg [.lit (.int .i64 0),.lit (.int .i64 0),.agg [.lit (.int .i64 0),.lit (.int .i64 0)],.agg [.lit (.int .i64 0),.lit (.int .i64 0)],.agg [.lit (.int .i64 0),.lit (.int .i64 0)]],.agg [.agg [.lit (.int .i64 0),.lit (.int .i64 0),.lit (.int .i64 0),.lit (.int .i64 0)],.lit (.int .i64 0),.lit (.int .i64 0)],.lit (.bool false)],.agg [.lit (.bool false),.agg [.lit (.int .i64 0),.lit (.int .i64 0),.lit (.bool false)],.agg [.lit (.int .i64 0),.lit (.int .i64 0),.agg [.lit (.int .i64 0),.lit (.int .i64 0)],.agg [.lit (.int .i64 0),.lit (.int .i64 0)],.agg [.lit (.int .i64 0),.lit (.int .i64 0)]],.agg [.agg [.lit (.int .i64 0),.lit (.int .i64 0),.lit (.int .i64 0),.lit (.int .i64 0)],.lit (.int .i64 0),.lit (.int .i64 0)],.lit (.bool false)],.lit (.int .i64 0),.lit (.string []),.lit (.int .i64 0)]],[],[])∧Rows.uptoSmall H (([.agg [.lit (.int .i64 0),.lit (.int .i64 0),.nil,.nil,.lit (.bool false),.nil,.agg [.lit (.int .i64 0),.lit (.int .i64 0),.lit (.bool false)],.agg [.lit (.int .i64 0),.lit (.int .i64 0),.agg [.lit (.int .i64 0),.lit (.int .i64 0)],.agg [.lit (.int .i64 0),.lit (.int .i64 0)],.agg [.lit (.int .i64 0),.lit (.int .i64 0)]],.agg [.agg [.lit (.int .i64 0),.lit (.int .i64 0),.lit (.int .i64 0),.lit (.int .i64 0)],.lit (.int .i64 0),.lit (.int .i64 0)],.agg [.lit (.bool false),.lit (.bool false),.lit (.bool false),.lit (.bool false),.lit (.bool false),.lit (.bool false),.lit (.bool false),.lit (.bool false),.lit (.bool false),.lit (.bool false),.lit (.bool false),.lit (.int .i64 0),.lit (.bool false)],.lit (.int .i64 0),.lit (.int .i64 0),.nil,.agg [.lit (.bool false),.agg [.lit (.int .i64 0),.lit (.int .i64 0),.lit (.bool false)],.agg [.lit (.int .i64 0),.lit (.int .i64 0),.agg [.lit (.int .i64 0),.lit (.int .i64 0)],.agg [.lit (.int .i64 0),.lit (.int .i64 0)],.agg [.lit (.int .i64 0),.lit (.int .i64 0)]],.agg [.agg [.lit (.int .i64 0),.lit (.int .i64 0),.lit (.int .i64 0),.lit (.int .i64 0)],.lit (.int .i64 0),.lit (.int .i64 0)],.lit (.bool false)],.agg [.lit (.bool false),.agg [.lit (.int .i64 0),.lit (.int .i64 0),.lit (.bool false)],.agg [.lit (.int .i64 0),.lit (.int .i64 0),.agg [.lit (.int .i64 0),.lit (.int .i64 0)],.agg [.lit (.int .i64 0),.lit (.int .i64 0)],.agg [.lit (.int .i64 0),.lit (.int .i64 0)]],.agg [.agg [.lit (.int .i64 0),.lit (.int .i64 0),.lit (.int .i64 0),.lit (.int .i64 0)],.lit (.int .i64 0),.lit (.int .i64 0)],.lit (.bool false)],.lit (.int .i64 0),.lit (.string []),.lit (.int .i64 0)]]:List (DataW H))++[])=true :=
 ⟨by kernel_rfl,by kernel_rfl⟩
set_option maxRecDepth 100000 in
theorem B3s (os:Os) (started:os.Started) (H:Type) (enc:TypeId×Value→H) (F:Stop.Interp) :
  ReturnsInHanded {} Tryz.checked os 5 .any ((Rows.OpenSpec.upto Rows.frameSeesSpec).preRow enc Tryz.prog Tryz.f5 Rows.frameSeesUptoRow.domain false Rows.frameSeesUptoRow.laid) (((Rows.OpenSpec.upto Rows.frameSeesSpec).at F).post enc Tryz.prog Tryz.f5 false true false false):=by
 obtain ⟨hx,hsm⟩:=B5i os enc
 refine returnsInHanded_of_row (C:=Tryz.checked) (s:=Rows.OpenSpec.upto Rows.frameSeesSpec) (show ownKnob Tryz.prog.godebug=none by kernel_rfl) started (by kernel_rfl) Tryz.func5
  (witness_row_at (enc:=enc) (C:=Tryz.checked) false (A5z os) #[A5f] rfl (by kernel_rfl) (by kernel_rfl) (by kernel_rfl)
   (OpenSpec.preRow_of_cond 8 hx (by kernel_rfl) (fun k hk=>by cases hk;exact hsm) (by kernel_rfl) (B1x os))) ?_
 intro W base args ds gs before hval hW _ hcond _ hL _ _
 exact B1h H enc W base args ds gs before hval hW (hcond _ rfl) hL
theorem B6s:Rows.FrameSeesUptoSaid :=
 OpenClaim.holds_of_cond 5 Tryz.f5 rfl rfl rfl rfl rfl rfl rfl ⟨rfl,rfl,rfl,rfl,rfl⟩ rfl rfl rfl rfl rfl (by kernel_rfl) Tryz.func5 B4d
  (of_decide_eq_true (by kernel_rfl)) (by unfold Func.isWrapper;first|(rw [if_pos (by decide +kernel)];kernel_rfl)|(rw [if_neg (by decide +kernel)];exact ⟨rfl,rfl⟩))
  (fun os started H enc _ F=>by rw [OpenClaim.pre_eq_preRow];exact B3s os started H enc F)
theorem B5n (f:FuncId) (fn:Func) (hf:Tryz.pinned.checked.prog.funcNamed Rows.frameSeesUptoRow.func=some f) (hfn:Tryz.pinned.checked.prog.funcs[f]?=some fn) :
  true=Tryz.pinned.checked.prog.looks []∧∀ (j:Nat) t,fn.params[j]?=some t→Tryz.pinned.checked.prog.wantsStandIn t=false:=by
 obtain rfl:f=5:=Option.some.inj ((show Tryz.prog.funcNamed Rows.frameSeesUptoRow.func=some 5 by kernel_rfl).symm.trans hf) |>.symm
 obtain rfl:fn=Tryz.f5:=(Option.some.inj (Tryz.func5.symm.trans hfn)).symm
 refine ⟨by kernel_rfl,fun j t ht=>?_⟩
 have hall:(Tryz.f5.params.toList.all fun t=>!(Tryz.pinned.checked.prog.wantsStandIn t))=true:=by kernel_rfl
 have:=List.all_eq_true.1 hall t (by simpa using Array.mem_of_getElem? ht)
 simpa using this
theorem frameSees_card:Rows.FrameSeesUptoCardSaid :=
 Claim7.holds_tied_plain_at .later [] _ _ _ _ B6s (fun _ h=>by cases h) (by kernel_rfl) (fun _ h=>by cases h) frameSeesUpto_row_tie rfl ⟨rfl,rfl⟩ (by kernel_rfl) rfl B5n B6i
end Go.Proofs.YthcjfkljekdioaaGreatDoor
