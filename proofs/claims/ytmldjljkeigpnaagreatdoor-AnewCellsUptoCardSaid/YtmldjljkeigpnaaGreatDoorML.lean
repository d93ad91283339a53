/- Proved: after a turn drawn anew, the screen holds the cells of the new frame (reads of bulk up to 1048576) -/
import Derived.Test.YtmldjljkeigpnaaGreatDoorCards
import Derived.Test.YtmldjljkeigpnaaGreatDoorTie
import Derived.Deep.DeepHandedRow
import Derived.SevenTiedAt
import Derived.Test.YtmldjljkeigpnaaGreatDoorMC1
import Derived.Test.YtmldjljkeigpnaaGreatDoorMQ6
import Derived.Test.YtmldjljkeigpnaaGreatDoorMLG
import Derived.Test.YtmldjljkeigpnaaGreatDoorMLK
set_option linter.unusedVariables false
set_option linter.unusedSimpArgs false
set_option linter.unnecessarySimpa false
set_option maxRecDepth 100000
namespace Go.Proofs.YtmldjljkeigpnaaGreatDoor
open Go Go.Fen
section
open Go.RowKit Go.ChangeShapes Go.ChangeAt Go.WideShapes
set_option maxHeartbeats 1000000 in
theorem C6r (H:Type) (enc:TypeId×Value→H) (W:World) (ba:Nat) (args:Array Value) (ds gs:List (DataW H)) (ac:List MemPlace)
  (k:∀ (j:Nat) t v,Tryz.f3.params[j]?=some t→args[j]?=some v→Value.okWide Tryz.prog W .any ba t v)
  (hW:DataW.Whole enc Tryz.prog Tryz.f3.params.toList Rows.anewCellsSpec.vars false W args.toList ds gs ac) (bj:Rows.uptoSmall H (ds++gs)=true) (hL:laidMetH Tryz.prog Rows.anewCellsUptoRow.laid W) :
  Calls Tryz.prog 3 args W fun e W'=>∃ v,e=.returned v∧Rows.anewCellsSpec.post enc Tryz.prog Tryz.f3 false true false false W args v W':=by
 have ca:=hW
 obtain ⟨p,q,bu,hV,rfl,di,e4⟩:=hW
 have c2:gs=[]:=by
  cases gs with
  | nil=>rfl
  | cons g gs=>exact hV.elim
 subst c2
 have hA:DataW.TrodAll enc Tryz.prog W 0 (fun _=>true) true Tryz.f3.params.toList args.toList ds p:=bu
 rw [Tryz.params3] at hA k
 obtain ⟨v0,d9,d0,d4,p0,q0,dz,ce,e5,t0,r0⟩:=trodAll_cons hA
 obtain ⟨v1,cz,d1,dm,p1,q1,bd,cb,du,t1,r1⟩:=trodAll_cons r0
 obtain ⟨v2,dx,d2,db,p2,q2,ck,c5,dl,t2,r2⟩:=trodAll_cons r1
 obtain ⟨v3,dw,d3,dc,p3,q3,bo,bg,d6,t3,r3⟩:=trodAll_cons r2
 obtain ⟨en,dn,pn⟩:=trodAll_nil r3
 subst en dn
 subst bo bg
 subst ck c5
 subst bd cb
 subst ce
 obtain rfl:args=#[v0,v1,v2,v3]:=by cases args;simp_all
 have k0:=k 0 26 v0 Z Z
 simp only [Value.okWide,Tryz.underlying26] at k0
 obtain ⟨c0,rfl,-,-⟩:=k0
 obtain ⟨dh,t0⟩:=t0
 obtain ⟨ah,a0,z,s,ak,w,m,y,a6,e0,ci,c6,ch,b7,b0,b3,au,bp,bl,bh,a8⟩:=F7h t0
 have cm:c0=_:=Array.ext' (show c0.toList=(List.toArray _).toList from e0)
 subst cm
 have k1:=k 1 26 v1 Z Z
 simp only [Value.okWide,Tryz.underlying26] at k1
 obtain ⟨c1,rfl,-,-⟩:=k1
 obtain ⟨d8,t1⟩:=t1
 obtain ⟨an,a1,a5,u,aq,n,l,a7,a4,e1,bz,cl,c7,aw,ax,b1,b6,c8,br,bw,am⟩:=F7h t1
 have bm:c1=_:=Array.ext' (show c1.toList=(List.toArray _).toList from e1)
 subst bm
 obtain ⟨dk,t2⟩:=t2
 obtain ⟨bb,a2k,a2,e2,c4,bn,be,b4,_⟩:=E3i (c:=H1) (D:=G4o) (p:=fun _ a=>G3l a) G4u (sz:=3) (fun _=>Z) oki ozw Tryz.underlying27 t2
 obtain rfl:v2=.slice bb a2.length a2k:=by have:=k 2 27 v2 Z Z;cases v2<;>simp_all [Value.cells,Value.okWide,Cell.okWide,Cell.ok,Tryz.underlying27]
 have k3:=k 3 29 v3 Z Z
 simp only [Value.okWide,Tryz.underlying29] at k3
 obtain ⟨c3,rfl,-,-⟩:=k3
 obtain ⟨dr,t3⟩:=t3
 obtain ⟨a3,e3,-,pp3⟩:=G3q t3
 have cj:c3=_:=Array.ext' (show c3.toList=(List.toArray _).toList from e3)
 subst cj
 have az:=bulks.bound bj
 simp only [List.append_nil,Rows.uptoBulkAll] at az
 have a9:=bulks.str_in (d:=d0) a8
 have ap:=bulks.str_in (d:=d1) am
 have f:laidMet Tryz.prog Rows.anewCellsUptoRow.laid W:=hL
 have av:(sl C0 (some ⟨0,0,none⟩) E3y).p (C5p W):=D0p (P:=Tryz.prog) (g:=0) (T:=208) (D:=F8m) (p:=fun _ a=>G3b a) (List.mem_of_getElem? (i:=5) Z) oki oki F4w (sz:=2) (fun _=>Z) oki Tryz.underlying208 oki E1z D5p oki f
 have b2:(sl C0 (some ⟨1,0,none⟩) F2z).p (C5p W):=D0p (P:=Tryz.prog) (g:=1) (T:=210) (D:=F8m) (p:=fun _ a=>G3b a) (List.mem_of_getElem? (i:=6) Z) oki oki F4w (sz:=2) (fun _=>Z) oki Tryz.underlying210 oki E1z D5p oki f
 have ar:(F8f 4 C2i).p (C5p W):=E8e▸F3t (P:=Tryz.prog) (g:=4) (T:=359) (c:=G2h) (D:=F9r) (p:=fun _ _=>True) (List.mem_of_getElem? (i:=2) Z) oki oki (F7t Tryz.underlying338) (sz:=1) (fun _=>Z) oki Tryz.underlying359 oki F0m E7w (tab:=Lib.pow10Tab) oki f
 have b5:(sl C7a (some ⟨2,0,none⟩) G3j).p (C5p W):=D0p (P:=Tryz.prog) (g:=2) (T:=325) (D:=G3a) (p:=fun _ a=>G3z a) (List.mem_of_getElem? (i:=4) Z) oki oki G2q (sz:=3) (fun _=>Z) oki Tryz.underlying325 oki F1e E9q oki f
 have b9:=(C8z (⟨ah,w,m,y,a6⟩:FrmC) ak (⟨an,n,l,a7,a4⟩:FrmC) aq a2 a3 a0 s z a1 u a5 bb a2k b7 okl okl aw okl okl okl okl opd opd true (D8m _ _ _ _ _ _ (fun r hr x hx=>(au r hr x hx).2.2.2.1) (fun r hr x hx=>(b6 r hr x hx).2.2.2.1))).2 W (C5p W) (all_cons b0 (all_cons b3 (all_cons ax (all_cons b1 (all_cons b4 (all_cons av (all_cons b2 (all_cons ar (all_cons b5 all_nil))))))))) (fun b o h=>h) ⟨(fun e he=>by cases he),List.nodup_nil⟩
 refine b9.mono fun e W' ⟨x,he,ay⟩=>⟨_,he,?_⟩
 obtain ⟨h',ay⟩:=ay
 exact F3b oki oki Z Tryz.underlying4 Z ca (KeptBut.below ay.kept) Z
noncomputable def B7n (a:Os):World :=
 {World.holding Tryz.prog a ⟨#[],#[],[]⟩ with heap:=(C6u (C6u (C6u (C6u (C6u (C6u (C6u (World.holding Tryz.prog a ⟨#[],#[],[]⟩).heap 6 (B1p Rows.laid_math_bits_deBruijn32tab)) 7 (B1p Rows.laid_math_bits_deBruijn64tab)) 4 (B1p Rows.laid_internal_strconv_uint64pow10)) 3 (B1p Rows.laid_fenestra_color_named)) 2 (B1p Rows.laid_fenestra_sgr_attrs)) 0 (B1p Rows.laid_fenestra_width_marks)) 1 (B1p Rows.laid_fenestra_width_wides))}
theorem C6v (a:Os):laidMet Tryz.prog Rows.anewCellsUptoRow.laid ((B7n a).forCall (fun _ _=>0) ⟨#[],#[(.agg #[.int .i64 0,.slice none 0 0,.int .i64 0,.int .i64 0,.bool false,.int .i64 0,.string ⟨#[]⟩]:Value),(.agg #[.int .i64 0,.slice none 0 0,.int .i64 0,.int .i64 0,.bool false,.int .i64 0,.string ⟨#[]⟩]:Value),(.slice none 0 0:Value),(.agg #[.int .i64 0,.int .i64 0,.bool false]:Value)],[]⟩).memory :=
 laidMet_of_run' 8 oki oki
theorem D2v (a:Os) {H:Type} (enc:TypeId×Value→H):DataW.whole enc Tryz.prog ((B7n a).forCall (fun _ _=>0) ⟨#[],#[(.agg #[.int .i64 0,.slice none 0 0,.int .i64 0,.int .i64 0,.bool false,.int .i64 0,.string ⟨#[]⟩]:Value),(.agg #[.int .i64 0,.slice none 0 0,.int .i64 0,.int .i64 0,.bool false,.int .i64 0,.string ⟨#[]⟩]:Value),(.slice none 0 0:Value),(.agg #[.int .i64 0,.int .i64 0,.bool false]:Value)],[]⟩).memory Tryz.f3.params.toList Rows.anewCellsSpec.vars false (#[(.agg #[.int .i64 0,.slice none 0 0,.int .i64 0,.int .i64 0,.bool false,.int .i64 0,.string ⟨#[]⟩]:Value),(.agg #[.int .i64 0,.slice none 0 0,.int .i64 0,.int .i64 0,.bool false,.int .i64 0,.string ⟨#[]⟩]:Value),(.slice none 0 0:Value),(.agg #[.int .i64 0,.int .i64 0,.bool false]:Value)]:Array Value).toList 8=some ([.agg [.lit (.int .i64 0),.nil,.agg [.lit (.int .i64 0),.lit (.int .i64 0)],.lit (.bool false),.lit (.int .i64 0),.lit (.string [])],.agg [.lit (.int .i64 0),.nil,.agg [.lit (.int .i64 0),.lit (.int .i64 0)],.lit (.bool false),.lit (.int .i64 0),.lit (.string [])],.nil,.agg [.lit (.int .i64 0),.lit (.int .i64 0),.lit (.bool false)]],[],[])∧Rows.uptoSmall H (([.agg [.lit (.int .i64 0),.nil,.agg [.lit (.int .i64 0),.lit (.int .i64 0)],.lit (.bool false),.lit (.int .i64 0),.lit (.string [])],.agg [.lit (.int .i64 0),.nil,.agg [.lit (.int .i64 0),.lit (.int .i64 0)],.lit (.bool false),.lit (.int .i64 0),.lit (.string [])],.nil,.agg [.lit (.int .i64 0),.lit (.int .i64 0),.lit (.bool false)]]:List (DataW H))++[])=true :=
 ⟨by kernel_rfl,by kernel_rfl⟩
theorem D0h (e:Os) (a:e.Started) (H:Type) (enc:TypeId×Value→H) (F:Stop.Interp) :
  ReturnsInHanded {} Tryz.checked e 3 .any ((Rows.OpenSpec.upto Rows.anewCellsSpec).preRow enc Tryz.prog Tryz.f3 Rows.anewCellsUptoRow.domain false Rows.anewCellsUptoRow.laid) (((Rows.OpenSpec.upto Rows.anewCellsSpec).at F).post enc Tryz.prog Tryz.f3 false true false false):=by
 obtain ⟨h,g⟩:=D2v e enc
 refine returnsInHanded_of_row (C:=Tryz.checked) (s:=Rows.OpenSpec.upto Rows.anewCellsSpec) (show ownKnob Tryz.prog.godebug=none by kernel_rfl) a oki Tryz.func3
  (witness_row_at (enc:=enc) (C:=Tryz.checked) false (B7n e) #[(.agg #[.int .i64 0,.slice none 0 0,.int .i64 0,.int .i64 0,.bool false,.int .i64 0,.string ⟨#[]⟩]:Value),(.agg #[.int .i64 0,.slice none 0 0,.int .i64 0,.int .i64 0,.bool false,.int .i64 0,.string ⟨#[]⟩]:Value),(.slice none 0 0:Value),(.agg #[.int .i64 0,.int .i64 0,.bool false]:Value)] Z oki oki oki
   (OpenSpec.preRow_of_cond 8 h oki (fun k i=>by cases i;exact g) oki (C6v e))) ?_
 intro W d args ds l b f j _ c _ hL _ _
 exact C6r H enc W d args ds l b f j (c _ Z) hL
theorem D5g:Rows.AnewCellsUptoSaid :=
 OpenClaim.holds_of_cond 3 Tryz.f3 Z Z Z Z Z Z Z ⟨rfl,rfl,rfl,rfl,rfl⟩ Z Z Z Z Z oki Tryz.func3 D0k
  (of_decide_eq_true oki) (by unfold Func.isWrapper;first|(rw [if_pos (by decide +kernel)];kernel_rfl)|(rw [if_neg (by decide +kernel)];exact ⟨rfl,rfl⟩))
  (fun b a H enc _ F=>by rw [OpenClaim.pre_eq_preRow];exact D0h b a H enc F)
theorem D3d (f:FuncId) (c:Func) (d:Tryz.pinned.checked.prog.funcNamed Rows.anewCellsUptoRow.func=some f) (b:Tryz.pinned.checked.prog.funcs[f]?=some c) :
  true=Tryz.pinned.checked.prog.looks []∧∀ (j:Nat) t,c.params[j]?=some t→Tryz.pinned.checked.prog.wantsStandIn t=false:=by
 obtain rfl:f=3:=Option.some.inj ((show Tryz.prog.funcNamed Rows.anewCellsUptoRow.func=some 3 by kernel_rfl).symm.trans d) |>.symm
 obtain rfl:c=Tryz.f3:=(Option.some.inj (Tryz.func3.symm.trans b)).symm
 refine ⟨by kernel_rfl,fun j t e=>?_⟩
 have a:(Tryz.f3.params.toList.all fun t=>!(Tryz.pinned.checked.prog.wantsStandIn t))=true:=by kernel_rfl
 have:=List.all_eq_true.1 a t (by simpa using Array.mem_of_getElem? e)
 simpa using this
theorem anewCells_card:Rows.AnewCellsUptoCardSaid :=
 Claim7.holds_tied_plain_at .later [] _ _ _ _ D5g (fun _ h=>by cases h) oki (fun _ h=>by cases h) anewCellsUpto_row_tie rfl ⟨rfl,rfl⟩ oki rfl D3d D6n
end
end Go.Proofs.YtmldjljkeigpnaaGreatDoor
