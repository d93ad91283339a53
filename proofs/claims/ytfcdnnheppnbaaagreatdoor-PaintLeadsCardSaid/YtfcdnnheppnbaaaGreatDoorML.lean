/- Proved: Run on a screen, the actions of a painted span put the cells into the span, leave all other cells unchanged, and leave pen and cursor as the span's answer says. -/
import Derived.Test.YtfcdnnheppnbaaaGreatDoorCards
import Derived.Test.YtfcdnnheppnbaaaGreatDoorTie
import Derived.Deep.DeepHandedRow
import Derived.SevenTiedAt
import Derived.Test.YtfcdnnheppnbaaaGreatDoorMC1
import Derived.Test.YtfcdnnheppnbaaaGreatDoorMQ5
import Derived.Test.YtfcdnnheppnbaaaGreatDoorMLG
import Derived.Test.YtfcdnnheppnbaaaGreatDoorMLK
set_option linter.unusedVariables false
set_option linter.unusedSimpArgs false
set_option linter.unnecessarySimpa false
set_option maxRecDepth 100000
namespace Go.Proofs.YtfcdnnheppnbaaaGreatDoor
open Go Go.Fen
open Go.RowKit Go.ChangeShapes Go.ChangeAt Go.WideShapes
set_option maxHeartbeats 1000000 in
theorem C0r (H:Type) (enc:TypeId×Value→H) (W:World) (a7:Nat) (args:Array Value) (ds gs:List (DataW H)) (l:List MemPlace)
  (f:∀ (j:Nat) t v,Tryz.f3.params[j]?=some t→args[j]?=some v→Value.okWide Tryz.prog W .any a7 t v)
  (hW:DataW.Whole enc Tryz.prog Tryz.f3.params.toList Rows.paintLeadsSpec.vars false W args.toList ds gs l) (hL:laidMetH Tryz.prog Rows.paintLeadsRow.laid W) :
  Calls Tryz.prog 3 args W fun e W'=>∃ v,e=.returned v∧Rows.paintLeadsSpec.post enc Tryz.prog Tryz.f3 false true false false W args v W':=by
 have b7:=hW
 obtain ⟨p,q,b5,hV,rfl,cl,bu⟩:=hW
 have b6:gs=[]:=by
  cases gs with
  | nil=>rfl
  | cons g gs=>exact hV.elim
 subst b6
 have hA:DataW.TrodAll enc Tryz.prog W 0 (fun _=>true) true Tryz.f3.params.toList args.toList ds p:=b5
 rw [Tryz.params3] at hA f
 obtain ⟨v0,bw,d0,ci,p0,q0,cc,az,bo,t0,r0⟩:=trodAll_cons hA
 obtain ⟨v1,bl,d1,cg,p1,q1,ax,b4,co,t1,r1⟩:=trodAll_cons r0
 obtain ⟨v2,c2,d2,cb,p2,q2,ay,aq,cp,t2,r2⟩:=trodAll_cons r1
 obtain ⟨v3,ce,d3,bm,p3,q3,av,ar,bk,t3,r3⟩:=trodAll_cons r2
 obtain ⟨v4,ca,d4,c7,p4,q4,ak,am,bn,t4,r4⟩:=trodAll_cons r3
 obtain ⟨en,dn,pn⟩:=trodAll_nil r4
 subst en dn
 subst ak am
 subst av ar
 subst ay aq
 subst ax b4
 subst az
 obtain rfl:args=#[v0,v1,v2,v3,v4]:=by cases args;simp_all
 obtain ⟨c8,t0⟩:=t0
 obtain ⟨a9,a0k,a0,e0,aw,al,k,u,_⟩:=E2l (c:=C0) (D:=F2x) (p:=fun _ a=>F0w a) F0e (sz:=12) (fun _=>rfl) oki ozw Tryz.underlying22 t0
 obtain rfl:v0=.slice a9 a0.length a0k:=by have:=f 0 22 v0 rfl rfl;cases v0<;>simp_all [Value.cells,Value.okWide,Cell.okWide,Cell.ok,Tryz.underlying22]
 obtain ⟨c3,t1⟩:=t1
 obtain ⟨a8,a1k,a1,e1,ai,b9,aj,m,_⟩:=E2l (c:=C0) (D:=F2x) (p:=fun _ a=>F0w a) F0e (sz:=12) (fun _=>rfl) oki ozw Tryz.underlying22 t1
 obtain rfl:v1=.slice a8 a1.length a1k:=by have:=f 1 22 v1 rfl rfl;cases v1<;>simp_all [Value.cells,Value.okWide,Cell.okWide,Cell.ok,Tryz.underlying22]
 obtain ⟨bp,t2⟩:=t2
 obtain ⟨a2,e2,-,b1⟩:=(A2u Tryz.underlying3) t2
 obtain rfl:v2=iv a2:=by have:=f 2 3 v2 rfl rfl;cases v2<;>simp_all [Value.cells,Value.okWide,Cell.okWide,Cell.ok,Tryz.underlying3,J8,R7,F4v,cG]
 obtain ⟨br,t3⟩:=t3
 obtain ⟨a3,e3,-,ao⟩:=(A2u Tryz.underlying3) t3
 obtain rfl:v3=iv a3:=by have:=f 3 3 v3 rfl rfl;cases v3<;>simp_all [Value.cells,Value.okWide,Cell.okWide,Cell.ok,Tryz.underlying3,J8,R7,F4v,cG]
 have k4:=f 4 26 v4 rfl rfl
 simp only [Value.okWide,Tryz.underlying26] at k4
 obtain ⟨c4,rfl,-,-⟩:=k4
 obtain ⟨bj,t4⟩:=t4
 obtain ⟨a4,e4,-,pp4⟩:=F0c t4
 have ah:c4=_:=Array.ext' (show c4.toList=(List.toArray _).toList from e4)
 subst ah
 have d:laidMet Tryz.prog Rows.paintLeadsRow.laid W:=hL
 have r:(sl B7 (some ⟨0,0,none⟩) E0e).p (C6o W):=B5m (P:=Tryz.prog) (g:=0) (T:=132) (D:=E8t) (p:=fun _ a=>F2f a) (List.mem_of_getElem? (i:=6) rfl) oki oki E5t (sz:=2) (fun _=>rfl) oki Tryz.underlying132 oki D5p C9g oki d
 have y:(sl B7 (some ⟨1,0,none⟩) E9o).p (C6o W):=B5m (P:=Tryz.prog) (g:=1) (T:=134) (D:=E8t) (p:=fun _ a=>F2f a) (List.mem_of_getElem? (i:=7) rfl) oki oki E5t (sz:=2) (fun _=>rfl) oki Tryz.underlying134 oki D5p C9g oki d
 have a5:(sl J8 (some ⟨4,0,none⟩) F0p).p (C6o W):=B5m (P:=Tryz.prog) (g:=4) (T:=358) (D:=B6x) (p:=fun _=>B2x) (List.mem_of_getElem? (i:=4) rfl) oki oki (A2u Tryz.underlying3) (sz:=1) (fun _=>rfl) oki Tryz.underlying358 oki E2b E0m oki d
 have w:(sl cG (some ⟨8,0,none⟩) E3k).p (C6o W):=B5m (P:=Tryz.prog) (g:=8) (T:=373) (D:=dU8) (p:=fun _ _=>True) (List.mem_of_getElem? (i:=2) rfl) oki oki (F1n Tryz.underlying5) (sz:=1) (fun _=>rfl) oki Tryz.underlying373 oki E5r E3n oki d
 have n:(E8z 5 B6p).p (C6o W):=D9t▸E5f (P:=Tryz.prog) (g:=5) (T:=366) (c:=F0k) (D:=E9r) (p:=fun _ _=>True) (List.mem_of_getElem? (i:=3) rfl) oki oki (E9p Tryz.underlying330) (sz:=1) (fun _=>rfl) oki Tryz.underlying366 oki E1d E0i (tab:=Lib.pow10Tab) oki d
 have z:(sl C2v (some ⟨3,0,none⟩) F4p).p (C6o W):=B5m (P:=Tryz.prog) (g:=3) (T:=320) (D:=F0q) (p:=fun _ a=>F3l a) (List.mem_of_getElem? (i:=5) rfl) oki oki F1q (sz:=3) (fun _=>rfl) oki Tryz.underlying320 oki E2v E0w oki d
 have a6:=(C2l a0 a1 a2 a3 a4 a9 a0k a8 a1k okl okl okl okl (by exact ⟨fun c hc=>(k c hc).2.2.2.1,pp4.1⟩) true (D0z _ _ _ _ _ ⟨fun c hc=>(k c hc).2.2.2.1,pp4.1⟩)).2 W (C6o W) (all_cons u (all_cons m (all_cons r (all_cons y (all_cons a5 (all_cons w (all_cons n (all_cons z all_nil)))))))) (fun b o h=>h) ⟨(fun e he=>by cases he),List.nodup_nil⟩
 refine a6.mono fun e W' ⟨x,he,s⟩=>⟨_,he,?_⟩
 obtain ⟨h',s⟩:=s
 exact E3q oki oki rfl Tryz.underlying4 rfl b7 (KeptBut.below s.kept) rfl
noncomputable def B1c (a:Os):World :=
 {World.holding Tryz.prog a ⟨#[],#[],[]⟩ with heap:=(B9i (B9i (B9i (B9i (B9i (B9i (B9i (B9i (World.holding Tryz.prog a ⟨#[],#[],[]⟩).heap 2 (A6f Rows.laid_fenestra_sets_signs)) 7 (A6f Rows.laid_math_bits_deBruijn32tab)) 8 (A6f Rows.laid_math_bits_deBruijn64tab)) 5 (A6f Rows.laid_internal_strconv_uint64pow10)) 4 (A6f Rows.laid_fenestra_color_named)) 3 (A6f Rows.laid_fenestra_sgr_attrs)) 0 (A6f Rows.laid_fenestra_width_marks)) 1 (A6f Rows.laid_fenestra_width_wides))}
theorem C0q (a:Os):laidMet Tryz.prog Rows.paintLeadsRow.laid ((B1c a).forCall (fun _ _=>0) ⟨#[],#[(.slice none 0 0:Value),(.slice none 0 0:Value),(.int .i64 0:Value),(.int .i64 0:Value),(.agg #[.int .i64 0,.int .i64 0,.int .i64 0,.int .i64 0,.int .i64 0,.int .i64 0,.int .i64 0,.int .i64 0]:Value)],[]⟩).memory :=
 laidMet_of_run' 8 oki oki
theorem C6m (a:Os) {H:Type} (enc:TypeId×Value→H):DataW.whole enc Tryz.prog ((B1c a).forCall (fun _ _=>0) ⟨#[],#[(.slice none 0 0:Value),(.slice none 0 0:Value),(.int .i64 0:Value),(.int .i64 0:Value),(.agg #[.int .i64 0,.int .i64 0,.int .i64 0,.int .i64 0,.int .i64 0,.int .i64 0,.int .i64 0,.int .i64 0]:Value)],[]⟩).memory Tryz.f3.params.toList Rows.paintLeadsSpec.vars false (#[(.slice none 0 0:Value),(.slice none 0 0:Value),(.int .i64 0:Value),(.int .i64 0:Value),(.agg #[.int .i64 0,.int .i64 0,.int .i64 0,.int .i64 0,.int .i64 0,.int .i64 0,.int .i64 0,.int .i64 0]:Value)]:Array Value).toList 8=some ([.nil,.nil,.lit (.int .i64 0),.lit (.int .i64 0),.agg [.lit (.int .i64 0),.lit (.int .i64 0),.agg [.lit (.int .i64 0),.lit (.int .i64 0)],.agg [.lit (.int .i64 0),.lit (.int .i64 0)],.agg [.lit (.int .i64 0),.lit (.int .i64 0)]]],[],[])∧Rows.uptoSmall H (([.nil,.nil,.lit (.int .i64 0),.lit (.int .i64 0),.agg [.lit (.int .i64 0),.lit (.int .i64 0),.agg [.lit (.int .i64 0),.lit (.int .i64 0)],.agg [.lit (.int .i64 0),.lit (.int .i64 0)],.agg [.lit (.int .i64 0),.lit (.int .i64 0)]]]:List (DataW H))++[])=true :=
 ⟨by kernel_rfl,by kernel_rfl⟩
theorem C4i (e:Os) (a:e.Started) (H:Type) (enc:TypeId×Value→H) (F:Stop.Interp) :
  ReturnsInHanded {} Tryz.checked e 3 .any ((OpenSpec.ofChange Rows.paintLeadsSpec).preRow enc Tryz.prog Tryz.f3 Rows.paintLeadsRow.domain false Rows.paintLeadsRow.laid) (((OpenSpec.ofChange Rows.paintLeadsSpec).at F).post enc Tryz.prog Tryz.f3 false true false false):=by
 obtain ⟨h,g⟩:=C6m e enc
 refine returnsInHanded_of_row (C:=Tryz.checked) (s:=OpenSpec.ofChange Rows.paintLeadsSpec) (show ownKnob Tryz.prog.godebug=none by kernel_rfl) a oki Tryz.func3
  (witness_row_at (enc:=enc) (C:=Tryz.checked) false (B1c e) #[(.slice none 0 0:Value),(.slice none 0 0:Value),(.int .i64 0:Value),(.int .i64 0:Value),(.agg #[.int .i64 0,.int .i64 0,.int .i64 0,.int .i64 0,.int .i64 0,.int .i64 0,.int .i64 0,.int .i64 0]:Value)] rfl oki oki oki
   (OpenSpec.preRow_of_cond 8 h oki (fun k i=>by cases i) oki (C0q e))) ?_
 intro W d args ds j b c l _ f _ m _ _
 exact C0r H enc W d args ds j b c l m
theorem C7t:Rows.PaintLeadsSaid :=
 OpenClaim.holds_of_cond 3 Tryz.f3 rfl rfl rfl rfl rfl rfl rfl ⟨rfl,rfl,rfl,rfl,rfl⟩ rfl rfl rfl rfl rfl oki Tryz.func3 C4m
  (of_decide_eq_true oki) (by unfold Func.isWrapper;first|(rw [if_pos (by decide +kernel)];kernel_rfl)|(rw [if_neg (by decide +kernel)];exact ⟨rfl,rfl⟩))
  (fun b a H enc _ F=>by rw [OpenClaim.pre_eq_preRow];exact C4i b a H enc F)
theorem C6j (f:FuncId) (c:Func) (d:Tryz.pinned.checked.prog.funcNamed Rows.paintLeadsRow.func=some f) (b:Tryz.pinned.checked.prog.funcs[f]?=some c) :
  true=Tryz.pinned.checked.prog.looks []∧∀ (j:Nat) t,c.params[j]?=some t→Tryz.pinned.checked.prog.wantsStandIn t=false:=by
 obtain rfl:f=3:=Option.some.inj ((show Tryz.prog.funcNamed Rows.paintLeadsRow.func=some 3 by kernel_rfl).symm.trans d) |>.symm
 obtain rfl:c=Tryz.f3:=(Option.some.inj (Tryz.func3.symm.trans b)).symm
 refine ⟨by kernel_rfl,fun j t e=>?_⟩
 have a:(Tryz.f3.params.toList.all fun t=>!(Tryz.pinned.checked.prog.wantsStandIn t))=true:=by kernel_rfl
 have:=List.all_eq_true.1 a t (by simpa using Array.mem_of_getElem? e)
 simpa using this
theorem paintLeads_card:Rows.PaintLeadsCardSaid :=
 Claim7.holds_tied_plain_at .later [] _ _ _ _ C7t (fun _ h=>by cases h) oki (fun _ h=>by cases h) paintLeads_row_tie rfl ⟨rfl,rfl⟩ oki rfl C6j C7v
end Go.Proofs.YtfcdnnheppnbaaaGreatDoor
