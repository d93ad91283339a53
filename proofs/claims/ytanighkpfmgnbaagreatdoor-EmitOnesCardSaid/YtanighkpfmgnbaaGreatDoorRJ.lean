/- Proved: the law EmitOnes holds (first form, no bound) -/
import Derived.Test.YtanighkpfmgnbaaGreatDoorCards
import Derived.Test.YtanighkpfmgnbaaGreatDoorTie
import Derived.Deep.DeepHandedRow
import Derived.SevenTiedAt
import Derived.Test.YtanighkpfmgnbaaGreatDoorC1
import Derived.Test.YtanighkpfmgnbaaGreatDoorN2
import Derived.Test.YtanighkpfmgnbaaGreatDoorRJK
set_option linter.unusedVariables false
set_option linter.unusedSimpArgs false
set_option linter.unnecessarySimpa false
namespace Go.Proofs.YtanighkpfmgnbaaGreatDoor
open Go Go.Fen
open Go.RowKit Go.ChangeShapes Go.ChangeAt Go.WideShapes
set_option maxRecDepth 100000 in
set_option maxHeartbeats 1000000 in
theorem B7y (H:Type) (enc:TypeId×Value→H) (W:World) (base:Nat) (args:Array Value) (ds gs:List (DataW H)) (before:List MemPlace)
  (hval:∀ (j:Nat) t v,Tryz.f5.params[j]?=some t→args[j]?=some v→Value.okWide Tryz.prog W .any base t v)
  (hW:DataW.Whole enc Tryz.prog Tryz.f5.params.toList Rows.emitOnesSpec.vars false W args.toList ds gs before) (hL:laidMetH Tryz.prog Rows.emitOnesRow.laid W) :
  Calls Tryz.prog 5 args W fun e W'=>∃ v,e=.returned v∧Rows.emitOnesSpec.post enc Tryz.prog Tryz.f5 false true false false W args v W':=by
 have hW0:=hW
 obtain ⟨p,q,hA0,hV,rfl,hfz,hnd⟩:=hW
 have hgs:gs=[]:=by
  cases gs with
  | nil=>rfl
  | cons g gs=>exact hV.elim
 subst hgs
 have hA:DataW.TrodAll enc Tryz.prog W 0 (fun _=>true) true Tryz.f5.params.toList args.toList ds p:=hA0
 rw [Tryz.params5] at hA hval
 obtain ⟨v0,vs0,d0,ds0,p0,q0,ha0,hd0,hp0,t0,r0⟩:=trodAll_cons hA
 obtain ⟨v1,vs1,d1,ds1,p1,q1,ha1,hd1,hp1,t1,r1⟩:=trodAll_cons r0
 obtain ⟨v2,vs2,d2,ds2,p2,q2,ha2,hd2,hp2,t2,r2⟩:=trodAll_cons r1
 obtain ⟨en,dn,pn⟩:=trodAll_nil r2
 subst en dn
 subst ha2 hd2
 subst ha1 hd1
 subst hd0
 obtain rfl:args=#[v0,v1,v2]:=by cases args;simp_all
 have k0:=hval 0 26 v0 rfl rfl
 simp only [Value.okWide,Tryz.underlying26] at k0
 obtain ⟨c0,rfl,-,-⟩:=k0
 obtain ⟨fu0,t0⟩:=t0
 obtain ⟨a0,e0,-,pp0⟩:=E4j t0
 have ec0:c0=_:=Array.ext' (show c0.toList=(List.toArray _).toList from e0)
 subst ec0
 have k1:=hval 1 41 v1 rfl rfl
 simp only [Value.okWide,Tryz.underlying41] at k1
 obtain ⟨c1,rfl,-,-⟩:=k1
 obtain ⟨fu1,t1⟩:=t1
 obtain ⟨a1,e1,-,pp1⟩:=E4n t1
 have ec1:c1=_:=Array.ext' (show c1.toList=(List.toArray _).toList from e1)
 subst ec1
 obtain ⟨fu2,t2⟩:=t2
 obtain ⟨a2,e2,-,hh2_0⟩:=(A4x Tryz.underlying3) t2
 obtain rfl:v2=iv a2:=by have:=hval 2 3 v2 rfl rfl;cases v2<;>simp_all [Value.cells,Value.okWide,Cell.okWide,Cell.ok,Tryz.underlying3,D8,E3u,D5y,cU8]
 have hlaid:laidMet Tryz.prog Rows.emitOnesRow.laid W:=hL
 have htab0:(sl B4 (some ⟨0,0,none⟩) B9o).p (C8q W):=B2c (P:=Tryz.prog) (g:=0) (T:=185) (D:=D9e) (p:=fun _ a=>E2c a) (List.mem_of_getElem? (i:=5) rfl) (by kernel_rfl) (by kernel_rfl) D8g (sz:=2) (fun _=>rfl) (by kernel_rfl) Tryz.underlying185 (by kernel_rfl) C7g C2m (by kernel_rfl) hlaid
 have htab1:(sl B4 (some ⟨1,0,none⟩) D2l).p (C8q W):=B2c (P:=Tryz.prog) (g:=1) (T:=187) (D:=D9e) (p:=fun _ a=>E2c a) (List.mem_of_getElem? (i:=6) rfl) (by kernel_rfl) (by kernel_rfl) D8g (sz:=2) (fun _=>rfl) (by kernel_rfl) Tryz.underlying187 (by kernel_rfl) C7g C2m (by kernel_rfl) hlaid
 have htab4:(sl D8 (some ⟨4,0,none⟩) D4p).p (C8q W):=B2c (P:=Tryz.prog) (g:=4) (T:=288) (D:=B5w) (p:=fun _=>B3r) (List.mem_of_getElem? (i:=3) rfl) (by kernel_rfl) (by kernel_rfl) (A4x Tryz.underlying3) (sz:=1) (fun _=>rfl) (by kernel_rfl) Tryz.underlying288 (by kernel_rfl) D3d D1s (by kernel_rfl) hlaid
 have htab7:(sl cU8 (some ⟨7,0,none⟩) C7w).p (C8q W):=B2c (P:=Tryz.prog) (g:=7) (T:=315) (D:=dU8) (p:=fun _ _=>True) (List.mem_of_getElem? (i:=1) rfl) (by kernel_rfl) (by kernel_rfl) (E2l Tryz.underlying5) (sz:=1) (fun _=>rfl) (by kernel_rfl) Tryz.underlying315 (by kernel_rfl) D7w D5s (by kernel_rfl) hlaid
 have htab5:(D9p 5 B3m).p (C8q W):=D1h▸D6p (P:=Tryz.prog) (g:=5) (T:=309) (c:=E3g) (D:=D9v) (p:=fun _ _=>True) (List.mem_of_getElem? (i:=2) rfl) (by kernel_rfl) (by kernel_rfl) (D9n Tryz.underlying150) (sz:=1) (fun _=>rfl) (by kernel_rfl) Tryz.underlying309 (by kernel_rfl) D4d D1f (tab:=Lib.pow10Tab) (by kernel_rfl) hlaid
 have htab2:(sl I2 (some ⟨2,0,none⟩) E4r).p (C8q W):=B2c (P:=Tryz.prog) (g:=2) (T:=244) (D:=E1p) (p:=fun _ a=>E3s a) (List.mem_of_getElem? (i:=4) rfl) (by kernel_rfl) (by kernel_rfl) E1m (sz:=3) (fun _=>rfl) (by kernel_rfl) Tryz.underlying244 (by kernel_rfl) D2w D2h (by kernel_rfl) hlaid
 have hcon:=(B9p a0 a1 a2 (by first|assumption|exact ⟨pp1.1,pp1.2.1,pp1.2.2.1,pp1.2.2.2.1⟩) true (C7x _ _ _ pp0.2.2.1 hh2_0 ⟨pp1.1,pp1.2.1,pp1.2.2.1,pp1.2.2.2.1⟩)).2 W (C8q W) (all_cons htab0 (all_cons htab1 (all_cons htab4 (all_cons htab7 (all_cons htab5 (all_cons htab2 all_nil)))))) (fun b o h=>h) ⟨(fun e he=>by cases he),List.nodup_nil⟩
 refine hcon.mono fun e W' ⟨x,he,hst⟩=>⟨_,he,?_⟩
 obtain ⟨h',hst⟩:=hst
 exact D5h (by kernel_rfl) (by kernel_rfl) rfl Tryz.underlying4 rfl hW0 (KeptBut.below hst.kept) rfl
noncomputable def B1j (os:Os):World :=
 {World.holding Tryz.prog os ⟨#[],#[],[]⟩ with heap:=(B6w (B6w (B6w (B6w (B6w (B6w (B6w (World.holding Tryz.prog os ⟨#[],#[],[]⟩).heap 6 (A5k Rows.laid_math_bits_deBruijn32tab)) 7 (A5k Rows.laid_math_bits_deBruijn64tab)) 5 (A5k Rows.laid_internal_strconv_uint64pow10)) 4 (A5k Rows.laid_fenestra_color_named)) 2 (A5k Rows.laid_fenestra_sgr_attrs)) 0 (A5k Rows.laid_fenestra_width_marks)) 1 (A5k Rows.laid_fenestra_width_wides))}
set_option maxRecDepth 100000 in
theorem B7q (os:Os):laidMet Tryz.prog Rows.emitOnesRow.laid ((B1j os).forCall (fun _ _=>0) ⟨#[],#[(.agg #[.int .i64 0,.int .i64 0,.int .i64 0,.int .i64 0,.int .i64 0,.string ⟨#[]⟩]:Value),(.agg #[.int .u16 0,.int .u16 0,.int .u16 0,.int .u32 0,.string ⟨#[]⟩]:Value),(.int .i64 0:Value)],[]⟩).memory :=
 laidMet_of_run' 8 (by kernel_rfl) (by kernel_rfl)
set_option maxRecDepth 100000 in
theorem C2x (os:Os) {H:Type} (enc:TypeId×Value→H):DataW.whole enc Tryz.prog ((B1j os).forCall (fun _ _=>0) ⟨#[],#[(.agg #[.int .i64 0,.int .i64 0,.int .i64 0,.int .i64 0,.int .i64 0,.string ⟨#[]⟩]:Value),(.agg #[.int .u16 0,.int .u16 0,.int .u16 0,.int .u32 0,.string ⟨#[]⟩]:Value),(.int .i64 0:Value)],[]⟩).memory Tryz.f5.params.toList Rows.emitOnesSpec.vars false (#[(.agg #[.int .i64 0,.int .i64 0,.int .i64 0,.int .i64 0,.int .i64 0,.string ⟨#[]⟩]:Value),(.agg #[.int .u16 0,.int .u16 0,.int .u16 0,.int .u32 0,.string ⟨#[]⟩]:Value),(.int .i64 0:Value)]:Array Value).toList 8=some ([.agg [.lit (.int .i64 0),.lit (.int .i64 0),.lit (.int .i64 0),.agg [.lit (.int .i64 0),.lit (.int .i64 0)],.lit (.string [])],.agg [.lit (.int .u16 0),.lit (.int .u16 0),.lit (.int .u16 0),.lit (.int .u32 0),.lit (.string [])],.lit (.int .i64 0)],[],[])∧Rows.uptoSmall H (([.agg [.lit (.int .i64 0),.lit (.int .i64 0),.lit (.int .i64 0),.agg [.lit (.int .i64 0),.lit (.int .i64 0)],.lit (.string [])],.agg [.lit (.int .u16 0),.lit (.int .u16 0),.lit (.int .u16 0),.lit (.int .u32 0),.lit (.string [])],.lit (.int .i64 0)]:List (DataW H))++[])=true :=
 ⟨by kernel_rfl,by kernel_rfl⟩
set_option maxRecDepth 100000 in
theorem C1b (os:Os) (started:os.Started) (H:Type) (enc:TypeId×Value→H) (F:Stop.Interp) :
  ReturnsInHanded {} Tryz.checked os 5 .any ((OpenSpec.ofChange Rows.emitOnesSpec).preRow enc Tryz.prog Tryz.f5 Rows.emitOnesRow.domain false Rows.emitOnesRow.laid) (((OpenSpec.ofChange Rows.emitOnesSpec).at F).post enc Tryz.prog Tryz.f5 false true false false):=by
 obtain ⟨hx,hsm⟩:=C2x os enc
 refine returnsInHanded_of_row (C:=Tryz.checked) (s:=OpenSpec.ofChange Rows.emitOnesSpec) (show ownKnob Tryz.prog.godebug=none by kernel_rfl) started (by kernel_rfl) Tryz.func5
  (witness_row_at (enc:=enc) (C:=Tryz.checked) false (B1j os) #[(.agg #[.int .i64 0,.int .i64 0,.int .i64 0,.int .i64 0,.int .i64 0,.string ⟨#[]⟩]:Value),(.agg #[.int .u16 0,.int .u16 0,.int .u16 0,.int .u32 0,.string ⟨#[]⟩]:Value),(.int .i64 0:Value)] rfl (by kernel_rfl) (by kernel_rfl) (by kernel_rfl)
   (OpenSpec.preRow_of_cond 8 hx (by kernel_rfl) (fun k hk=>by cases hk) (by kernel_rfl) (B7q os))) ?_
 intro W base args ds gs before hval hW _ hcond _ hL _ _
 exact B7y H enc W base args ds gs before hval hW hL
theorem C5e:Rows.EmitOnesSaid :=
 OpenClaim.holds_of_cond 5 Tryz.f5 rfl rfl rfl rfl rfl rfl rfl ⟨rfl,rfl,rfl,rfl,rfl⟩ rfl rfl rfl rfl rfl (by kernel_rfl) Tryz.func5 C1m
  (of_decide_eq_true (by kernel_rfl)) (by unfold Func.isWrapper;first|(rw [if_pos (by decide +kernel)];kernel_rfl)|(rw [if_neg (by decide +kernel)];exact ⟨rfl,rfl⟩))
  (fun os started H enc _ F=>by rw [OpenClaim.pre_eq_preRow];exact C1b os started H enc F)
theorem C3f (f:FuncId) (fn:Func) (hf:Tryz.pinned.checked.prog.funcNamed Rows.emitOnesRow.func=some f) (hfn:Tryz.pinned.checked.prog.funcs[f]?=some fn) :
  true=Tryz.pinned.checked.prog.looks []∧∀ (j:Nat) t,fn.params[j]?=some t→Tryz.pinned.checked.prog.wantsStandIn t=false:=by
 obtain rfl:f=5:=Option.some.inj ((show Tryz.prog.funcNamed Rows.emitOnesRow.func=some 5 by kernel_rfl).symm.trans hf) |>.symm
 obtain rfl:fn=Tryz.f5:=(Option.some.inj (Tryz.func5.symm.trans hfn)).symm
 refine ⟨by kernel_rfl,fun j t ht=>?_⟩
 have hall:(Tryz.f5.params.toList.all fun t=>!(Tryz.pinned.checked.prog.wantsStandIn t))=true:=by kernel_rfl
 have:=List.all_eq_true.1 hall t (by simpa using Array.mem_of_getElem? ht)
 simpa using this
theorem emitOnes_card:Rows.EmitOnesCardSaid :=
 Claim7.holds_tied_plain_at .later [] _ _ _ _ C5e (fun _ h=>by cases h) (by kernel_rfl) (fun _ h=>by cases h) emitOnes_row_tie rfl ⟨rfl,rfl⟩ (by kernel_rfl) rfl C3f (by kernel_rfl)
end Go.Proofs.YtanighkpfmgnbaaGreatDoor
