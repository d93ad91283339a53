/- Proved: running the actions of a shift on the screen that shows a frame yields the screen that shows the shifted frame, with the cursor at the first place (fenestralaw28.ShiftLeads), where what is read is of bulk at most 1048576 -/
import Derived.Test.YtkdgfkfbljdgmaaGreatDoorCards
import Derived.Test.YtkdgfkfbljdgmaaGreatDoorTie
import Derived.Deep.DeepHandedRow
import Derived.SevenTiedAt
import Derived.Test.YtkdgfkfbljdgmaaGreatDoorMC1
import Derived.Test.YtkdgfkfbljdgmaaGreatDoorMX1
import Derived.Test.YtkdgfkfbljdgmaaGreatDoorMLG
import Derived.Test.YtkdgfkfbljdgmaaGreatDoorMLK
set_option linter.unusedVariables false
set_option linter.unusedSimpArgs false
set_option linter.unnecessarySimpa false
namespace Go.Proofs.YtkdgfkfbljdgmaaGreatDoor
open Go Go.Fen
open Go.RowKit Go.ChangeShapes Go.ChangeAt Go.WideShapes
set_option maxRecDepth 100000 in
set_option maxHeartbeats 1000000 in
theorem A9v (H:Type) (enc:TypeId×Value→H) (W:World) (ab:Nat) (args:Array Value) (ds gs:List (DataW H)) (z:List MemPlace)
  (m:∀ (j:Nat) t v,Tryz.f3.params[j]?=some t→args[j]?=some v→Value.okWide Tryz.prog W .any ab t v)
  (hW:DataW.Whole enc Tryz.prog Tryz.f3.params.toList Rows.shiftLeadsSpec.vars false W args.toList ds gs z) (ak:Rows.uptoSmall H (ds++gs)=true) (hL:laidMetH Tryz.prog Rows.shiftLeadsUptoRow.laid W) :
  Calls Tryz.prog 3 args W fun e W'=>∃ v,e=.returned v∧Rows.shiftLeadsSpec.post enc Tryz.prog Tryz.f3 false true false false W args v W':=by
 have av:=hW
 obtain ⟨p,q,au,hV,rfl,bl,br⟩:=hW
 have ai:gs=[]:=by
  cases gs with
  | nil=>rfl
  | cons g gs=>exact hV.elim
 subst ai
 have hA:DataW.TrodAll enc Tryz.prog W 0 (fun _=>true) true Tryz.f3.params.toList args.toList ds p:=au
 rw [Tryz.params3] at hA m
 obtain ⟨v0,b7,d0,bg,p0,q0,b8,ao,be,t0,r0⟩:=trodAll_cons hA
 obtain ⟨v1,bq,d1,b9,p1,q1,ax,am,bi,t1,r1⟩:=trodAll_cons r0
 obtain ⟨en,dn,pn⟩:=trodAll_nil r1
 subst en dn
 subst ax am
 subst ao
 obtain rfl:args=#[v0,v1]:=by cases args;simp_all
 have k0:=m 0 26 v0 rfl rfl
 simp only [Value.okWide,Tryz.underlying26] at k0
 obtain ⟨c0,rfl,-,-⟩:=k0
 obtain ⟨ba,t0⟩:=t0
 obtain ⟨a2,n,r,k,y,f,c,u,l,e0,ah,an,aw,a9,a4,a3,ap,aq,af,ar,a0⟩:=D0z t0
 have ae:c0=_:=Array.ext' (show c0.toList=(List.toArray _).toList from e0)
 subst ae
 have k1:=m 1 28 v1 rfl rfl
 simp only [Value.okWide,Tryz.underlying28] at k1
 obtain ⟨c1,rfl,-,-⟩:=k1
 obtain ⟨bu,t1⟩:=t1
 obtain ⟨a1,e1,-,pp1⟩:=D2t t1
 have aj:c1=_:=Array.ext' (show c1.toList=(List.toArray _).toList from e1)
 subst aj
 have a5:=bulks.bound ak
 simp only [List.append_nil,Rows.uptoBulkAll] at a5
 have w:=bulks.str_in (d:=d0) a0
 have s:laidMet Tryz.prog Rows.shiftLeadsUptoRow.laid W:=hL
 have a8:(sl B6 (some ⟨0,0,none⟩) C3f).p (B3u W):=B8u (P:=Tryz.prog) (g:=0) (T:=147) (D:=C8t) (p:=fun _ a=>D1m a) (List.mem_of_getElem? (i:=5) rfl) oki oki C7b (sz:=2) (fun _=>rfl) oki Tryz.underlying147 oki B9s B6v oki s
 have a7:(sl B6 (some ⟨1,0,none⟩) C8z).p (B3u W):=B8u (P:=Tryz.prog) (g:=1) (T:=149) (D:=C8t) (p:=fun _ a=>D1m a) (List.mem_of_getElem? (i:=6) rfl) oki oki C7b (sz:=2) (fun _=>rfl) oki Tryz.underlying149 oki B9s B6v oki s
 have ac:=(B0y (⟨a2,f,c,u,l⟩:FrmC) y a1 n k r a9 okl okl (by first|omega|(simp only [List.length_nil];omega)|(dsimp only;omega)) true (B7k _ _ _)).2 W (B3u W) (all_cons a4 (all_cons a3 (all_cons a8 (all_cons a7 C8y)))) (fun b o h=>h) ⟨(fun e he=>by cases he),List.nodup_nil⟩
 refine ac.mono fun e W' ⟨x,he,a6⟩=>⟨_,he,?_⟩
 obtain ⟨h',a6⟩:=a6
 exact C5w oki oki rfl Tryz.underlying4 rfl av (KeptBut.below a6.kept) rfl
noncomputable def A3x (a:Os):World :=
 {World.holding Tryz.prog a ⟨#[],#[],[]⟩ with heap:=(B0x (B0x (B0x (B0x (B0x (B0x (B0x (World.holding Tryz.prog a ⟨#[],#[],[]⟩).heap 2 (A1q Rows.laid_fenestra_sets_signs)) 6 (A1q Rows.laid_math_bits_deBruijn32tab)) 7 (A1q Rows.laid_math_bits_deBruijn64tab)) 4 (A1q Rows.laid_internal_strconv_uint64pow10)) 3 (A1q Rows.laid_fenestra_color_named)) 0 (A1q Rows.laid_fenestra_width_marks)) 1 (A1q Rows.laid_fenestra_width_wides))}
set_option maxRecDepth 100000 in
theorem A9u (a:Os):laidMet Tryz.prog Rows.shiftLeadsUptoRow.laid ((A3x a).forCall (fun _ _=>0) ⟨#[],#[(.agg #[.int .i64 0,.slice none 0 0,.int .i64 0,.int .i64 0,.bool false,.int .i64 0,.string ⟨#[]⟩]:Value),(.agg #[.int .i64 0,.int .i64 0,.int .i64 0]:Value)],[]⟩).memory :=
 laidMet_of_run' 8 oki oki
set_option maxRecDepth 100000 in
theorem B3p (a:Os) {H:Type} (enc:TypeId×Value→H):DataW.whole enc Tryz.prog ((A3x a).forCall (fun _ _=>0) ⟨#[],#[(.agg #[.int .i64 0,.slice none 0 0,.int .i64 0,.int .i64 0,.bool false,.int .i64 0,.string ⟨#[]⟩]:Value),(.agg #[.int .i64 0,.int .i64 0,.int .i64 0]:Value)],[]⟩).memory Tryz.f3.params.toList Rows.shiftLeadsSpec.vars false (#[(.agg #[.int .i64 0,.slice none 0 0,.int .i64 0,.int .i64 0,.bool false,.int .i64 0,.string ⟨#[]⟩]:Value),(.agg #[.int .i64 0,.int .i64 0,.int .i64 0]:Value)]:Array Value).toList 8=some ([.agg [.lit (.int .i64 0),.nil,.agg [.lit (.int .i64 0),.lit (.int .i64 0)],.lit (.bool false),.lit (.int .i64 0),.lit (.string [])],.agg [.lit (.int .i64 0),.lit (.int .i64 0),.lit (.int .i64 0)]],[],[])∧Rows.uptoSmall H (([.agg [.lit (.int .i64 0),.nil,.agg [.lit (.int .i64 0),.lit (.int .i64 0)],.lit (.bool false),.lit (.int .i64 0),.lit (.string [])],.agg [.lit (.int .i64 0),.lit (.int .i64 0),.lit (.int .i64 0)]]:List (DataW H))++[])=true :=
 ⟨by kernel_rfl,by kernel_rfl⟩
set_option maxRecDepth 100000 in
theorem B2a (d:Os) (a:d.Started) (H:Type) (enc:TypeId×Value→H) (F:Stop.Interp) :
  ReturnsInHanded {} Tryz.checked d 3 .any ((Rows.OpenSpec.upto Rows.shiftLeadsSpec).preRow enc Tryz.prog Tryz.f3 Rows.shiftLeadsUptoRow.domain false Rows.shiftLeadsUptoRow.laid) (((Rows.OpenSpec.upto Rows.shiftLeadsSpec).at F).post enc Tryz.prog Tryz.f3 false true false false):=by
 obtain ⟨m,g⟩:=B3p d enc
 refine returnsInHanded_of_row (C:=Tryz.checked) (s:=Rows.OpenSpec.upto Rows.shiftLeadsSpec) (show ownKnob Tryz.prog.godebug=none by kernel_rfl) a oki Tryz.func3
  (witness_row_at (enc:=enc) (C:=Tryz.checked) false (A3x d) #[(.agg #[.int .i64 0,.slice none 0 0,.int .i64 0,.int .i64 0,.bool false,.int .i64 0,.string ⟨#[]⟩]:Value),(.agg #[.int .i64 0,.int .i64 0,.int .i64 0]:Value)] rfl oki oki oki
   (OpenSpec.preRow_of_cond 8 m oki (fun k h=>by cases h;exact g) oki (A9u d))) ?_
 intro W e args ds l b f i _ c _ j _ _
 exact A9v H enc W e args ds l b f i (c _ rfl) j
theorem B5k:Rows.ShiftLeadsUptoSaid :=
 OpenClaim.holds_of_cond 3 Tryz.f3 rfl rfl rfl rfl rfl rfl rfl ⟨rfl,rfl,rfl,rfl,rfl⟩ rfl rfl rfl rfl rfl oki Tryz.func3 B1q
  (of_decide_eq_true oki) (by unfold Func.isWrapper;first|(rw [if_pos (by decide +kernel)];kernel_rfl)|(rw [if_neg (by decide +kernel)];exact ⟨rfl,rfl⟩))
  (fun b a H enc _ F=>by rw [OpenClaim.pre_eq_preRow];exact B2a b a H enc F)
theorem B3v (f:FuncId) (b:Func) (e:Tryz.pinned.checked.prog.funcNamed Rows.shiftLeadsUptoRow.func=some f) (c:Tryz.pinned.checked.prog.funcs[f]?=some b) :
  true=Tryz.pinned.checked.prog.looks []∧∀ (j:Nat) t,b.params[j]?=some t→Tryz.pinned.checked.prog.wantsStandIn t=false:=by
 obtain rfl:f=3:=Option.some.inj ((show Tryz.prog.funcNamed Rows.shiftLeadsUptoRow.func=some 3 by kernel_rfl).symm.trans e) |>.symm
 obtain rfl:b=Tryz.f3:=(Option.some.inj (Tryz.func3.symm.trans c)).symm
 refine ⟨by kernel_rfl,fun j t d=>?_⟩
 have a:(Tryz.f3.params.toList.all fun t=>!(Tryz.pinned.checked.prog.wantsStandIn t))=true:=by kernel_rfl
 have:=List.all_eq_true.1 a t (by simpa using Array.mem_of_getElem? d)
 simpa using this
theorem shiftLeads_card:Rows.ShiftLeadsUptoCardSaid :=
 Claim7.holds_tied_plain_at .later [] _ _ _ _ B5k (fun _ h=>by cases h) oki (fun _ h=>by cases h) shiftLeadsUpto_row_tie rfl ⟨rfl,rfl⟩ oki rfl B3v B5g
end Go.Proofs.YtkdgfkfbljdgmaaGreatDoor
