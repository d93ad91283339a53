/- Proved: AnewRests, the law that anew.Rest returns the remaining actions or the documented error, holds for all frames and cursors where what is read is of bulk at most 1048576. -/
import Derived.Test.YtgimbmncdmnklaaGreatDoorCards
import Derived.Test.YtgimbmncdmnklaaGreatDoorTie
import Derived.Deep.DeepHandedRow
import Derived.SevenTiedAt
import Derived.Test.YtgimbmncdmnklaaGreatDoorMC1
import Derived.Test.YtgimbmncdmnklaaGreatDoorMQ5
import Derived.Test.YtgimbmncdmnklaaGreatDoorMLG
import Derived.Test.YtgimbmncdmnklaaGreatDoorMLK
set_option linter.unusedVariables false
set_option linter.unusedSimpArgs false
set_option linter.unnecessarySimpa false
set_option maxRecDepth 100000
namespace Go.Proofs.YtgimbmncdmnklaaGreatDoor
open Go Go.Fen
open Go.RowKit Go.ChangeShapes Go.ChangeAt Go.WideShapes
set_option maxHeartbeats 1000000 in
theorem C2j (H:Type) (enc:TypeId×Value→H) (W:World) (ax:Nat) (args:Array Value) (ds gs:List (DataW H)) (ad:List MemPlace)
  (m:∀ (j:Nat) t v,Tryz.f4.params[j]?=some t→args[j]?=some v→Value.okWide Tryz.prog W .any ax t v)
  (hW:DataW.Whole enc Tryz.prog Tryz.f4.params.toList Rows.anewRestsSpec.vars false W args.toList ds gs ad) (bb:Rows.uptoSmall H (ds++gs)=true) (hL:laidMetH Tryz.prog Rows.anewRestsUptoRow.laid W) :
  Calls Tryz.prog 4 args W fun e W'=>∃ v,e=.returned v∧Rows.anewRestsSpec.post enc Tryz.prog Tryz.f4 false true false false W args v W':=by
 have b7:=hW
 obtain ⟨p,q,bn,hV,rfl,d5,cy⟩:=hW
 have br:gs=[]:=by
  cases gs with
  | nil=>rfl
  | cons g gs=>exact hV.elim
 subst br
 have hA:DataW.TrodAll enc Tryz.prog W 0 (fun _=>true) true Tryz.f4.params.toList args.toList ds p:=bn
 rw [Tryz.params4] at hA m
 obtain ⟨v0,cl,d0,cd,p0,q0,cw,bh,cz,t0,r0⟩:=trodAll_cons hA
 obtain ⟨v1,cc,d1,ci,p1,q1,b0,b9,cr,t1,r1⟩:=trodAll_cons r0
 obtain ⟨v2,ct,d2,cq,p2,q2,bp,b1,cg,t2,r2⟩:=trodAll_cons r1
 obtain ⟨en,dn,pn⟩:=trodAll_nil r2
 subst en dn
 subst bp b1
 subst b0 b9
 subst bh
 obtain rfl:args=#[v0,v1,v2]:=by cases args;simp_all
 have k0:=m 0 26 v0 rfl rfl
 simp only [Value.okWide,Tryz.underlying26] at k0
 obtain ⟨c0,rfl,-,-⟩:=k0
 obtain ⟨d3,t0⟩:=t0
 obtain ⟨ae,a0,z,s,af,w,k,y,a4,e0,bm,b2,bl,aw,av,ak,am,bj,bd,b6,a8⟩:=E8o t0
 have bu:c0=_:=Array.ext' (show c0.toList=(List.toArray _).toList from e0)
 subst bu
 have k1:=m 1 26 v1 rfl rfl
 simp only [Value.okWide,Tryz.underlying26] at k1
 obtain ⟨c1,rfl,-,-⟩:=k1
 obtain ⟨ck,t1⟩:=t1
 obtain ⟨a9,a5,a3,u,ac,n,l,a6,a1,e1,bq,bw,b4,ap,aq,ah,ao,b5,bk,bo,a7⟩:=E8o t1
 have bg:c1=_:=Array.ext' (show c1.toList=(List.toArray _).toList from e1)
 subst bg
 have k2:=m 2 29 v2 rfl rfl
 simp only [Value.okWide,Tryz.underlying29] at k2
 obtain ⟨c2,rfl,-,-⟩:=k2
 obtain ⟨co,t2⟩:=t2
 obtain ⟨a2,e2,-,cG⟩:=F4h t2
 have b3:c2=_:=Array.ext' (show c2.toList=(List.toArray _).toList from e2)
 subst b3
 have au:=bulks.bound bb
 simp only [List.append_nil,Rows.uptoBulkAll] at au
 have ab:=bulks.str_in (d:=d0) a8
 have aa:=bulks.str_in (d:=d1) a7
 have f:laidMet Tryz.prog Rows.anewRestsUptoRow.laid W:=hL
 have an:(sl C0 (some ⟨0,0,none⟩) D7c).p (C0t W):=C5m (P:=Tryz.prog) (g:=0) (T:=209) (D:=E9s) (p:=fun _ a=>F3p a) (List.mem_of_getElem? (i:=5) rfl) oki oki E5l (sz:=2) (fun _=>rfl) oki Tryz.underlying209 oki D5i C9q oki f
 have ai:(sl C0 (some ⟨1,0,none⟩) E4x).p (C0t W):=C5m (P:=Tryz.prog) (g:=1) (T:=211) (D:=E9s) (p:=fun _ a=>F3p a) (List.mem_of_getElem? (i:=6) rfl) oki oki E5l (sz:=2) (fun _=>rfl) oki Tryz.underlying211 oki D5i C9q oki f
 have aj:(E9m 4 B8d).p (C0t W):=E0t▸E5o (P:=Tryz.prog) (g:=4) (T:=360) (c:=F2x) (D:=F0n) (p:=fun _ _=>True) (List.mem_of_getElem? (i:=2) rfl) oki oki (E9b Tryz.underlying339) (sz:=1) (fun _=>rfl) oki Tryz.underlying360 oki E2r E0l (tab:=Lib.pow10Tab) oki f
 have al:(sl C2g (some ⟨2,0,none⟩) F3z).p (C0t W):=C5m (P:=Tryz.prog) (g:=2) (T:=326) (D:=F3o) (p:=fun _ a=>F4o a) (List.mem_of_getElem? (i:=4) rfl) oki oki F2d (sz:=3) (fun _=>rfl) oki Tryz.underlying326 oki E3l E1y oki f
 have az:=(C4t (⟨ae,w,k,y,a4⟩:FrmC) af (⟨a9,n,l,a6,a1⟩:FrmC) ac a2 a0 s z a5 u a3 aw okl okl ap okl okl opd opd true (D2u _ _ _ _ _ (fun r hr x hx=>(am r hr x hx).2.2.2.1) (fun r hr x hx=>(ao r hr x hx).2.2.2.1))).2 W (C0t W) (all_cons av (all_cons ak (all_cons aq (all_cons ah (all_cons an (all_cons ai (all_cons aj (all_cons al all_nil)))))))) (fun b o h=>h) ⟨(fun e he=>by cases he),List.nodup_nil⟩
 refine az.mono fun e W' ⟨x,he,ar⟩=>⟨_,he,?_⟩
 obtain ⟨h',ar⟩:=ar
 exact E4z oki oki rfl Tryz.underlying4 rfl b7 (KeptBut.below ar.kept) rfl
noncomputable def B4j (a:Os):World :=
 {World.holding Tryz.prog a ⟨#[],#[],[]⟩ with heap:=(C2b (C2b (C2b (C2b (C2b (C2b (C2b (World.holding Tryz.prog a ⟨#[],#[],[]⟩).heap 6 (A8q Rows.laid_math_bits_deBruijn32tab)) 7 (A8q Rows.laid_math_bits_deBruijn64tab)) 4 (A8q Rows.laid_internal_strconv_uint64pow10)) 3 (A8q Rows.laid_fenestra_color_named)) 2 (A8q Rows.laid_fenestra_sgr_attrs)) 0 (A8q Rows.laid_fenestra_width_marks)) 1 (A8q Rows.laid_fenestra_width_wides))}
theorem C2h (a:Os):laidMet Tryz.prog Rows.anewRestsUptoRow.laid ((B4j a).forCall (fun _ _=>0) ⟨#[],#[(.agg #[.int .i64 0,.slice none 0 0,.int .i64 0,.int .i64 0,.bool false,.int .i64 0,.string ⟨#[]⟩]:Value),(.agg #[.int .i64 0,.slice none 0 0,.int .i64 0,.int .i64 0,.bool false,.int .i64 0,.string ⟨#[]⟩]:Value),(.agg #[.int .i64 0,.int .i64 0,.bool false]:Value)],[]⟩).memory :=
 laidMet_of_run' 8 oki oki
theorem C7l (a:Os) {H:Type} (enc:TypeId×Value→H):DataW.whole enc Tryz.prog ((B4j a).forCall (fun _ _=>0) ⟨#[],#[(.agg #[.int .i64 0,.slice none 0 0,.int .i64 0,.int .i64 0,.bool false,.int .i64 0,.string ⟨#[]⟩]:Value),(.agg #[.int .i64 0,.slice none 0 0,.int .i64 0,.int .i64 0,.bool false,.int .i64 0,.string ⟨#[]⟩]:Value),(.agg #[.int .i64 0,.int .i64 0,.bool false]:Value)],[]⟩).memory Tryz.f4.params.toList Rows.anewRestsSpec.vars false (#[(.agg #[.int .i64 0,.slice none 0 0,.int .i64 0,.int .i64 0,.bool false,.int .i64 0,.string ⟨#[]⟩]:Value),(.agg #[.int .i64 0,.slice none 0 0,.int .i64 0,.int .i64 0,.bool false,.int .i64 0,.string ⟨#[]⟩]:Value),(.agg #[.int .i64 0,.int .i64 0,.bool false]:Value)]:Array Value).toList 8=some ([.agg [.lit (.int .i64 0),.nil,.agg [.lit (.int .i64 0),.lit (.int .i64 0)],.lit (.bool false),.lit (.int .i64 0),.lit (.string [])],.agg [.lit (.int .i64 0),.nil,.agg [.lit (.int .i64 0),.lit (.int .i64 0)],.lit (.bool false),.lit (.int .i64 0),.lit (.string [])],.agg [.lit (.int .i64 0),.lit (.int .i64 0),.lit (.bool false)]],[],[])∧Rows.uptoSmall H (([.agg [.lit (.int .i64 0),.nil,.agg [.lit (.int .i64 0),.lit (.int .i64 0)],.lit (.bool false),.lit (.int .i64 0),.lit (.string [])],.agg [.lit (.int .i64 0),.nil,.agg [.lit (.int .i64 0),.lit (.int .i64 0)],.lit (.bool false),.lit (.int .i64 0),.lit (.string [])],.agg [.lit (.int .i64 0),.lit (.int .i64 0),.lit (.bool false)]]:List (DataW H))++[])=true :=
 ⟨by kernel_rfl,by kernel_rfl⟩
theorem C5v (e:Os) (a:e.Started) (H:Type) (enc:TypeId×Value→H) (F:Stop.Interp) :
  ReturnsInHanded {} Tryz.checked e 4 .any ((Rows.OpenSpec.upto Rows.anewRestsSpec).preRow enc Tryz.prog Tryz.f4 Rows.anewRestsUptoRow.domain false Rows.anewRestsUptoRow.laid) (((Rows.OpenSpec.upto Rows.anewRestsSpec).at F).post enc Tryz.prog Tryz.f4 false true false false):=by
 obtain ⟨h,g⟩:=C7l e enc
 refine returnsInHanded_of_row (show ownKnob _=none by kernel_rfl) a oki Tryz.func4
  (witness_row_at _ _ _ rfl oki oki oki
   (OpenSpec.preRow_of_cond 8 h oki (fun k i=>by cases i;exact g) oki (C2h e))) ?_
 intro W d args ds l b f j _ c _ hL _ _
 exact C2j H _ W d _ _ l b f j (c _ rfl) hL
theorem D0j:Rows.AnewRestsUptoSaid :=
 OpenClaim.holds_of_cond 4 Tryz.f4 rfl rfl rfl rfl rfl rfl rfl ⟨rfl,rfl,rfl,rfl,rfl⟩ rfl rfl rfl rfl rfl oki Tryz.func4 C5n
  (of_decide_eq_true oki) (by unfold Func.isWrapper;first|(rw [if_pos (by decide +kernel)];kernel_rfl)|(rw [if_neg (by decide +kernel)];exact ⟨rfl,rfl⟩))
  (fun b a H enc _ F=>by rw [OpenClaim.pre_eq_preRow];exact C5v b a H enc F)
theorem C7x (f:FuncId) (c:Func) (d:Tryz.pinned.checked.prog.funcNamed Rows.anewRestsUptoRow.func=some f) (b:Tryz.pinned.checked.prog.funcs[f]?=some c) :
  true=Tryz.pinned.checked.prog.looks []∧∀ (j:Nat) t,c.params[j]?=some t→Tryz.pinned.checked.prog.wantsStandIn t=false:=by
 obtain rfl:f=4:=Option.some.inj ((show Tryz.prog.funcNamed Rows.anewRestsUptoRow.func=some 4 by kernel_rfl).symm.trans d) |>.symm
 obtain rfl:c=Tryz.f4:=(Option.some.inj (Tryz.func4.symm.trans b)).symm
 refine ⟨by kernel_rfl,fun j t e=>?_⟩
 have a:(Tryz.f4.params.toList.all fun t=>!(Tryz.pinned.checked.prog.wantsStandIn t))=true:=by kernel_rfl
 have:=List.all_eq_true.1 a t (by simpa using Array.mem_of_getElem? e)
 simpa using this
theorem anewRests_card:Rows.AnewRestsUptoCardSaid :=
 Claim7.holds_tied_plain_at .later [] _ _ _ _ D0j (fun _ h=>by cases h) oki (fun _ h=>by cases h) anewRestsUpto_row_tie rfl ⟨rfl,rfl⟩ oki rfl C7x C8r
end Go.Proofs.YtgimbmncdmnklaaGreatDoor
