/- Proved: a full redraw of a frame is what the document says, or ErrFrame for a frame that is not valid (reads of bulk up to 1048576) -/
import Derived.Test.YtmldjljkeigpnaaGreatDoorCards
import Derived.Test.YtmldjljkeigpnaaGreatDoorTie
import Derived.Deep.DeepHandedRow
import Derived.SevenTiedAt
import Derived.Test.YtmldjljkeigpnaaGreatDoorMC1
import Derived.Test.YtmldjljkeigpnaaGreatDoorMQ6
import Derived.Test.YtmldjljkeigpnaaGreatDoorMLG
import Derived.Test.YtmldjljkeigpnaaGreatDoorMLK
set_option linter.unusedVariables false
set_option linter.unusedSimpArgs false
set_option linter.unnecessarySimpa false
set_option maxRecDepth 100000
namespace Go.Proofs.YtmldjljkeigpnaaGreatDoor
open Go Go.Fen
section
open Go.RowKit Go.ChangeShapes Go.ChangeAt Go.WideShapes
set_option maxHeartbeats 1000000 in
theorem cf (H:Type) (enc:TypeId×Value→H) (W:World) (an:Nat) (args:Array Value) (ds gs:List (DataW H)) (a0:List MemPlace)
  (a3:∀ (j:Nat) t v,Tryz.f4.params[j]?=some t→args[j]?=some v→Value.okWide Tryz.prog W .any an t v)
  (hW:DataW.Whole enc Tryz.prog Tryz.f4.params.toList Rows.anewDrawsSpec.vars false W args.toList ds gs a0) (b5:Rows.uptoSmall H (ds++gs)=true) (hL:laidMetH Tryz.prog Rows.anewDrawsUptoRow.laid W) :
  Calls Tryz.prog 4 args W fun e W'=>∃ v,e=.returned v∧Rows.anewDrawsSpec.post enc Tryz.prog Tryz.f4 false true false false W args v W':=by
 have b3:=hW
 obtain ⟨p,q,bk,hV,rfl,d4,d1⟩:=hW
 have bl:gs=[]:=by
  cases gs with
  | nil=>rfl
  | cons g gs=>exact hV.elim
 subst bl
 have hA:DataW.TrodAll enc Tryz.prog W 0 (fun _=>true) true Tryz.f4.params.toList args.toList ds p:=bk
 rw [Tryz.params4] at hA a3
 obtain ⟨v0,cl,d0,c6,p0,q0,ct,b8,d2,t0,r0⟩:=trodAll_cons hA
 obtain ⟨en,dn,pn⟩:=trodAll_nil r0
 subst en dn
 subst b8
 obtain rfl:args=#[v0]:=by cases args;simp_all
 have k0:=a3 0 26 v0 rfl rfl
 simp only [Value.okWide,Tryz.underlying26] at k0
 obtain ⟨c0,rfl,-,-⟩:=k0
 obtain ⟨d3,t0⟩:=t0
 obtain ⟨a1,u,s,l,a2,m,k,n,w,e0,be,b1,bb,am,ak,a6,a8,b9,b6,b2,y⟩:=F7h t0
 have br:c0=_:=Array.ext' (show c0.toList=(List.toArray _).toList from e0)
 subst br
 have ah:=bulks.bound b5
 simp only [List.append_nil,Rows.uptoBulkAll] at ah
 have z:=bulks.str_in (d:=d0) y
 have f:laidMet Tryz.prog Rows.anewDrawsUptoRow.laid W:=hL
 have a9:(sl C0 (some ⟨0,0,none⟩) E3y).p (C5p W):=D0p (P:=Tryz.prog) (g:=0) (T:=208) (D:=F8m) (p:=fun _ a=>G3b a) (List.mem_of_getElem? (i:=5) rfl) oki oki F4w (sz:=2) (fun _=>rfl) oki Tryz.underlying208 oki E1z D5p oki f
 have a4:(sl C0 (some ⟨1,0,none⟩) F2z).p (C5p W):=D0p (P:=Tryz.prog) (g:=1) (T:=210) (D:=F8m) (p:=fun _ a=>G3b a) (List.mem_of_getElem? (i:=6) rfl) oki oki F4w (sz:=2) (fun _=>rfl) oki Tryz.underlying210 oki E1z D5p oki f
 have a5:(F8f 4 C2i).p (C5p W):=E8e▸F3t (P:=Tryz.prog) (g:=4) (T:=359) (c:=G2h) (D:=F9r) (p:=fun _ _=>True) (List.mem_of_getElem? (i:=2) rfl) oki oki (F7t Tryz.underlying338) (sz:=1) (fun _=>rfl) oki Tryz.underlying359 oki F0m E7w (tab:=Lib.pow10Tab) oki f
 have a7:(sl C7a (some ⟨2,0,none⟩) G3j).p (C5p W):=D0p (P:=Tryz.prog) (g:=2) (T:=325) (D:=G3a) (p:=fun _ a=>G3z a) (List.mem_of_getElem? (i:=4) rfl) oki oki G2q (sz:=3) (fun _=>rfl) oki Tryz.underlying325 oki F1e E9q oki f
 have b0:=(ck (⟨a1,m,k,n,w⟩:FrmC) a2 u l s am okl okl opd true (dj _ _ (fun r hr x hx=>(a8 r hr x hx).2.2.2.1))).2 W (C5p W) (all_cons ak (all_cons a6 (all_cons a9 (all_cons a4 (all_cons a5 (all_cons a7 all_nil)))))) (fun b o h=>h) ⟨(fun e he=>by cases he),List.nodup_nil⟩
 refine b0.mono fun e W' ⟨x,he,ac⟩=>⟨_,he,?_⟩
 obtain ⟨h',ac⟩:=ac
 exact F3b oki oki rfl Tryz.underlying4 rfl b3 (KeptBut.below ac.kept) rfl
noncomputable def bg (a:Os):World :=
 {World.holding Tryz.prog a ⟨#[],#[],[]⟩ with heap:=(C6u (C6u (C6u (C6u (C6u (C6u (C6u (World.holding Tryz.prog a ⟨#[],#[],[]⟩).heap 6 (B1p Rows.laid_math_bits_deBruijn32tab)) 7 (B1p Rows.laid_math_bits_deBruijn64tab)) 4 (B1p Rows.laid_internal_strconv_uint64pow10)) 3 (B1p Rows.laid_fenestra_color_named)) 2 (B1p Rows.laid_fenestra_sgr_attrs)) 0 (B1p Rows.laid_fenestra_width_marks)) 1 (B1p Rows.laid_fenestra_width_wides))}
theorem ci (a:Os):laidMet Tryz.prog Rows.anewDrawsUptoRow.laid ((bg a).forCall (fun _ _=>0) ⟨#[],#[(.agg #[.int .i64 0,.slice none 0 0,.int .i64 0,.int .i64 0,.bool false,.int .i64 0,.string ⟨#[]⟩]:Value)],[]⟩).memory :=
 laidMet_of_run' 8 oki oki
theorem d5 (a:Os) {H:Type} (enc:TypeId×Value→H):DataW.whole enc Tryz.prog ((bg a).forCall (fun _ _=>0) ⟨#[],#[(.agg #[.int .i64 0,.slice none 0 0,.int .i64 0,.int .i64 0,.bool false,.int .i64 0,.string ⟨#[]⟩]:Value)],[]⟩).memory Tryz.f4.params.toList Rows.anewDrawsSpec.vars false (#[(.agg #[.int .i64 0,.slice none 0 0,.int .i64 0,.int .i64 0,.bool false,.int .i64 0,.string ⟨#[]⟩]:Value)]:Array Value).toList 8=some ([.agg [.lit (.int .i64 0),.nil,.agg [.lit (.int .i64 0),.lit (.int .i64 0)],.lit (.bool false),.lit (.int .i64 0),.lit (.string [])]],[],[])∧Rows.uptoSmall H (([.agg [.lit (.int .i64 0),.nil,.agg [.lit (.int .i64 0),.lit (.int .i64 0)],.lit (.bool false),.lit (.int .i64 0),.lit (.string [])]]:List (DataW H))++[])=true :=
 ⟨by kernel_rfl,by kernel_rfl⟩
theorem cv (e:Os) (a:e.Started) (H:Type) (enc:TypeId×Value→H) (F:Stop.Interp) :
  ReturnsInHanded {} Tryz.checked e 4 .any ((Rows.OpenSpec.upto Rows.anewDrawsSpec).preRow enc Tryz.prog Tryz.f4 Rows.anewDrawsUptoRow.domain false Rows.anewDrawsUptoRow.laid) (((Rows.OpenSpec.upto Rows.anewDrawsSpec).at F).post enc Tryz.prog Tryz.f4 false true false false):=by
 obtain ⟨h,g⟩:=d5 e enc
 refine returnsInHanded_of_row (C:=Tryz.checked) (s:=Rows.OpenSpec.upto Rows.anewDrawsSpec) (show ownKnob Tryz.prog.godebug=none by kernel_rfl) a oki Tryz.func4
  (witness_row_at (enc:=enc) (C:=Tryz.checked) false (bg e) #[(.agg #[.int .i64 0,.slice none 0 0,.int .i64 0,.int .i64 0,.bool false,.int .i64 0,.string ⟨#[]⟩]:Value)] rfl oki oki oki
   (OpenSpec.preRow_of_cond 8 h oki (fun k i=>by cases i;exact g) oki (ci e))) ?_
 intro W d args ds l b f j _ c _ hL _ _
 exact cf H enc W d args ds l b f j (c _ rfl) hL
theorem dh:Rows.AnewDrawsUptoSaid :=
 OpenClaim.holds_of_cond 4 Tryz.f4 rfl rfl rfl rfl rfl rfl rfl ⟨rfl,rfl,rfl,rfl,rfl⟩ rfl rfl rfl rfl rfl oki Tryz.func4 cq
  (of_decide_eq_true oki) (by unfold Func.isWrapper;first|(rw [if_pos (by decide +kernel)];kernel_rfl)|(rw [if_neg (by decide +kernel)];exact ⟨rfl,rfl⟩))
  (fun b a H enc _ F=>by rw [OpenClaim.pre_eq_preRow];exact cv b a H enc F)
theorem cy (f:FuncId) (c:Func) (d:Tryz.pinned.checked.prog.funcNamed Rows.anewDrawsUptoRow.func=some f) (b:Tryz.pinned.checked.prog.funcs[f]?=some c) :
  true=Tryz.pinned.checked.prog.looks []∧∀ (j:Nat) t,c.params[j]?=some t→Tryz.pinned.checked.prog.wantsStandIn t=false:=by
 obtain rfl:f=4:=Option.some.inj ((show Tryz.prog.funcNamed Rows.anewDrawsUptoRow.func=some 4 by kernel_rfl).symm.trans d) |>.symm
 obtain rfl:c=Tryz.f4:=(Option.some.inj (Tryz.func4.symm.trans b)).symm
 refine ⟨by kernel_rfl,fun j t e=>?_⟩
 have a:(Tryz.f4.params.toList.all fun t=>!(Tryz.pinned.checked.prog.wantsStandIn t))=true:=by kernel_rfl
 have:=List.all_eq_true.1 a t (by simpa using Array.mem_of_getElem? e)
 simpa using this
theorem anewDraws_card:Rows.AnewDrawsUptoCardSaid :=
 Claim7.holds_tied_plain_at .later [] _ _ _ _ dh (fun _ h=>by cases h) oki (fun _ h=>by cases h) anewDrawsUpto_row_tie rfl ⟨rfl,rfl⟩ oki rfl cy da
end
end Go.Proofs.YtmldjljkeigpnaaGreatDoor
