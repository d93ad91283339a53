/- Proved: the law EmitRows holds (first form, no bound) -/
import Derived.Test.YtanighkpfmgnbaaGreatDoorCards
import Derived.Test.YtanighkpfmgnbaaGreatDoorTie
import Derived.Deep.DeepHandedRow
import Derived.SevenTiedAt
import Derived.Test.YtanighkpfmgnbaaGreatDoorXC1
import Derived.Test.YtanighkpfmgnbaaGreatDoorXN2
import Derived.Test.YtanighkpfmgnbaaGreatDoorXLK
set_option linter.unusedVariables false
set_option linter.unusedSimpArgs false
set_option linter.unnecessarySimpa false
namespace Go.Proofs.YtanighkpfmgnbaaGreatDoor
open Go Go.Fen
open Go.RowKit Go.ChangeShapes Go.ChangeAt Go.WideShapes
set_option maxRecDepth 100000 in
set_option maxHeartbeats 1000000 in
theorem B8v (H:Type) (enc:TypeId×Value→H) (W:World) (base:Nat) (args:Array Value) (ds gs:List (DataW H)) (before:List MemPlace)
  (hval:∀ (j:Nat) t v,Tryz.f3.params[j]?=some t→args[j]?=some v→Value.okWide Tryz.prog W .any base t v)
  (hW:DataW.Whole enc Tryz.prog Tryz.f3.params.toList Rows.emitRowsSpec.vars false W args.toList ds gs before) (hL:laidMetH Tryz.prog Rows.emitRowsRow.laid W) :
  Calls Tryz.prog 3 args W fun e W'=>∃ v,e=.returned v∧Rows.emitRowsSpec.post enc Tryz.prog Tryz.f3 false true false false W args v W':=by
 have hW0:=hW
 obtain ⟨p,q,hA0,hV,rfl,hfz,hnd⟩:=hW
 have hgs:gs=[]:=by
  cases gs with
  | nil=>rfl
  | cons g gs=>exact hV.elim
 subst hgs
 have hA:DataW.TrodAll enc Tryz.prog W 0 (fun _=>true) true Tryz.f3.params.toList args.toList ds p:=hA0
 rw [Tryz.params3] at hA hval
 obtain ⟨v0,vs0,d0,ds0,p0,q0,ha0,hd0,hp0,t0,r0⟩:=trodAll_cons hA
 obtain ⟨v1,vs1,d1,ds1,p1,q1,ha1,hd1,hp1,t1,r1⟩:=trodAll_cons r0
 obtain ⟨v2,vs2,d2,ds2,p2,q2,ha2,hd2,hp2,t2,r2⟩:=trodAll_cons r1
 obtain ⟨v3,vs3,d3,ds3,p3,q3,ha3,hd3,hp3,t3,r3⟩:=trodAll_cons r2
 obtain ⟨en,dn,pn⟩:=trodAll_nil r3
 subst en dn
 subst ha3 hd3
 subst ha2 hd2
 subst ha1 hd1
 subst hd0
 obtain rfl:args=#[v0,v1,v2,v3]:=by cases args;simp_all
 obtain ⟨fu0,t0⟩:=t0
 obtain ⟨a0q,a0k,a0,e0,hh0_0,hh0_1,hh0_3,hh0_2,_⟩:=E1r (c:=M5) (D:=E6j) (p:=fun _ a=>E5p a) E5o (sz:=5) (fun _=>rfl) (by kernel_rfl) (by decide) Tryz.underlying22 t0
 obtain rfl:v0=.slice a0q a0.length a0k:=by have:=hval 0 22 v0 rfl rfl;cases v0<;>simp_all [Value.cells,Value.okWide,Cell.okWide,Cell.ok,Tryz.underlying22]
 obtain ⟨fu1,t1⟩:=t1
 obtain ⟨a1,e1,-,hh1_0⟩:=(D2u Tryz.underlying5) t1
 obtain rfl:v1=.int .u8 (a1.toNat:Int):=by have:=hval 1 5 v1 rfl rfl;cases v1<;>simp_all [Value.cells,Value.okWide,Cell.okWide,Cell.ok,Tryz.underlying5,D8,E2a,D6m,cU8]
 have k2:=hval 2 26 v2 rfl rfl
 simp only [Value.okWide,Tryz.underlying26] at k2
 obtain ⟨c2,rfl,-,-⟩:=k2
 obtain ⟨fu2,t2⟩:=t2
 obtain ⟨a2,e2,-,pp2⟩:=E5q t2
 have ec2:c2=_:=Array.ext' (show c2.toList=(List.toArray _).toList from e2)
 subst ec2
 obtain ⟨fu3,t3⟩:=t3
 obtain ⟨a3,e3,-,hh3_0⟩:=(D2u Tryz.underlying5) t3
 obtain rfl:v3=.int .u8 (a3.toNat:Int):=by have:=hval 3 5 v3 rfl rfl;cases v3<;>simp_all [Value.cells,Value.okWide,Cell.okWide,Cell.ok,Tryz.underlying5,D8,E2a,D6m,cU8]
 have hlaid:laidMet Tryz.prog Rows.emitRowsRow.laid W:=hL
 have htab0:(sl B3 (some ⟨0,0,none⟩) C0e).p (B9y W):=B2u (P:=Tryz.prog) (g:=0) (T:=185) (D:=E0m) (p:=fun _ a=>E4c a) (List.mem_of_getElem? (i:=5) rfl) (by kernel_rfl) (by kernel_rfl) D7g (sz:=2) (fun _=>rfl) (by kernel_rfl) Tryz.underlying185 (by kernel_rfl) C8i C4l (by kernel_rfl) hlaid
 have htab1:(sl B3 (some ⟨1,0,none⟩) D3m).p (B9y W):=B2u (P:=Tryz.prog) (g:=1) (T:=187) (D:=E0m) (p:=fun _ a=>E4c a) (List.mem_of_getElem? (i:=6) rfl) (by kernel_rfl) (by kernel_rfl) D7g (sz:=2) (fun _=>rfl) (by kernel_rfl) Tryz.underlying187 (by kernel_rfl) C8i C4l (by kernel_rfl) hlaid
 have htab4:(sl D8 (some ⟨4,0,none⟩) D6k).p (B9y W):=B2u (P:=Tryz.prog) (g:=4) (T:=288) (D:=B6n) (p:=fun _=>B4l) (List.mem_of_getElem? (i:=3) rfl) (by kernel_rfl) (by kernel_rfl) (A6c Tryz.underlying3) (sz:=1) (fun _=>rfl) (by kernel_rfl) Tryz.underlying288 (by kernel_rfl) D4n D2o (by kernel_rfl) hlaid
 have htab7:(sl cU8 (some ⟨7,0,none⟩) C8z).p (B9y W):=B2u (P:=Tryz.prog) (g:=7) (T:=315) (D:=dU8) (p:=fun _ _=>True) (List.mem_of_getElem? (i:=1) rfl) (by kernel_rfl) (by kernel_rfl) (D2u Tryz.underlying5) (sz:=1) (fun _=>rfl) (by kernel_rfl) Tryz.underlying315 (by kernel_rfl) D8p D6f (by kernel_rfl) hlaid
 have htab5:(E1e 5 B3y).p (B9y W):=D2f▸D8a (P:=Tryz.prog) (g:=5) (T:=309) (c:=E3c) (D:=E1p) (p:=fun _ _=>True) (List.mem_of_getElem? (i:=2) rfl) (by kernel_rfl) (by kernel_rfl) (E0x Tryz.underlying150) (sz:=1) (fun _=>rfl) (by kernel_rfl) Tryz.underlying309 (by kernel_rfl) D5g D3e (tab:=Lib.pow10Tab) (by kernel_rfl) hlaid
 have htab2:(sl I1 (some ⟨2,0,none⟩) E4z).p (B9y W):=B2u (P:=Tryz.prog) (g:=2) (T:=244) (D:=E3u) (p:=fun _ a=>E4v a) (List.mem_of_getElem? (i:=4) rfl) (by kernel_rfl) (by kernel_rfl) E3p (sz:=3) (fun _=>rfl) (by kernel_rfl) Tryz.underlying244 (by kernel_rfl) D3o D2e (by kernel_rfl) hlaid
 have hcon:=(B9j a0 a1 a2 a3 a0q a0k (by first|omega|(simp only [List.length_take,List.length_drop,List.length_append,List.length_cons,List.length_nil,List.length_set,List.length_map];omega)|decide) (by first|omega|(simp only [List.length_take,List.length_drop,List.length_append,List.length_cons,List.length_nil,List.length_set,List.length_map];omega)|decide) (fun d hd=>⟨(hh0_3 d hd).1,(hh0_3 d hd).2.1,(hh0_3 d hd).2.2.1,(hh0_3 d hd).2.2.2.1⟩) (UInt8.toNat_lt a1) true (C9b _ _ _ _ (fun d hd=>⟨(hh0_3 d hd).1,(hh0_3 d hd).2.1,(hh0_3 d hd).2.2.1,(hh0_3 d hd).2.2.2.1⟩) pp2.2.2.1)).2 W (B9y W) (all_cons hh0_2 (all_cons htab0 (all_cons htab1 (all_cons htab4 (all_cons htab7 (all_cons htab5 (all_cons htab2 all_nil))))))) (fun b o h=>h) ⟨(fun e he=>by cases he),List.nodup_nil⟩
 refine hcon.mono fun e W' ⟨x,he,hst⟩=>⟨_,he,?_⟩
 obtain ⟨h',hst⟩:=hst
 exact D6a (by kernel_rfl) (by kernel_rfl) rfl Tryz.underlying4 rfl hW0 (KeptBut.below hst.kept) rfl
noncomputable def B2i (os:Os):World :=
 {World.holding Tryz.prog os ⟨#[],#[],[]⟩ with heap:=(B7g (B7g (B7g (B7g (B7g (B7g (B7g (World.holding Tryz.prog os ⟨#[],#[],[]⟩).heap 6 (A5s Rows.laid_math_bits_deBruijn32tab)) 7 (A5s Rows.laid_math_bits_deBruijn64tab)) 5 (A5s Rows.laid_internal_strconv_uint64pow10)) 4 (A5s Rows.laid_fenestra_color_named)) 2 (A5s Rows.laid_fenestra_sgr_attrs)) 0 (A5s Rows.laid_fenestra_width_marks)) 1 (A5s Rows.laid_fenestra_width_wides))}
set_option maxRecDepth 100000 in
theorem B8o (os:Os):laidMet Tryz.prog Rows.emitRowsRow.laid ((B2i os).forCall (fun _ _=>0) ⟨#[],#[(.slice none 0 0:Value),(.int .u8 0:Value),(.agg #[.int .i64 0,.int .i64 0,.int .i64 0,.int .i64 0,.int .i64 0,.string ⟨#[]⟩]:Value),(.int .u8 0:Value)],[]⟩).memory :=
 laidMet_of_run' 8 (by kernel_rfl) (by kernel_rfl)
set_option maxRecDepth 100000 in
theorem C3q (os:Os) {H:Type} (enc:TypeId×Value→H):DataW.whole enc Tryz.prog ((B2i os).forCall (fun _ _=>0) ⟨#[],#[(.slice none 0 0:Value),(.int .u8 0:Value),(.agg #[.int .i64 0,.int .i64 0,.int .i64 0,.int .i64 0,.int .i64 0,.string ⟨#[]⟩]:Value),(.int .u8 0:Value)],[]⟩).memory Tryz.f3.params.toList Rows.emitRowsSpec.vars false (#[(.slice none 0 0:Value),(.int .u8 0:Value),(.agg #[.int .i64 0,.int .i64 0,.int .i64 0,.int .i64 0,.int .i64 0,.string ⟨#[]⟩]:Value),(.int .u8 0:Value)]:Array Value).toList 8=some ([.nil,.lit (.int .u8 0),.agg [.lit (.int .i64 0),.lit (.int .i64 0),.lit (.int .i64 0),.agg [.lit (.int .i64 0),.lit (.int .i64 0)],.lit (.string [])],.lit (.int .u8 0)],[],[])∧Rows.uptoSmall H (([.nil,.lit (.int .u8 0),.agg [.lit (.int .i64 0),.lit (.int .i64 0),.lit (.int .i64 0),.agg [.lit (.int .i64 0),.lit (.int .i64 0)],.lit (.string [])],.lit (.int .u8 0)]:List (DataW H))++[])=true :=
 ⟨by kernel_rfl,by kernel_rfl⟩
set_option maxRecDepth 100000 in
theorem C1j (os:Os) (started:os.Started) (H:Type) (enc:TypeId×Value→H) (F:Stop.Interp) :
  ReturnsInHanded {} Tryz.checked os 3 .any ((OpenSpec.ofChange Rows.emitRowsSpec).preRow enc Tryz.prog Tryz.f3 Rows.emitRowsRow.domain false Rows.emitRowsRow.laid) (((OpenSpec.ofChange Rows.emitRowsSpec).at F).post enc Tryz.prog Tryz.f3 false true false false):=by
 obtain ⟨hx,hsm⟩:=C3q os enc
 refine returnsInHanded_of_row (C:=Tryz.checked) (s:=OpenSpec.ofChange Rows.emitRowsSpec) (show ownKnob Tryz.prog.godebug=none by kernel_rfl) started (by kernel_rfl) Tryz.func3
  (witness_row_at (enc:=enc) (C:=Tryz.checked) false (B2i os) #[(.slice none 0 0:Value),(.int .u8 0:Value),(.agg #[.int .i64 0,.int .i64 0,.int .i64 0,.int .i64 0,.int .i64 0,.string ⟨#[]⟩]:Value),(.int .u8 0:Value)] rfl (by kernel_rfl) (by kernel_rfl) (by kernel_rfl)
   (OpenSpec.preRow_of_cond 8 hx (by kernel_rfl) (fun k hk=>by cases hk) (by kernel_rfl) (B8o os))) ?_
 intro W base args ds gs before hval hW _ hcond _ hL _ _
 exact B8v H enc W base args ds gs before hval hW hL
theorem C5m:Rows.EmitRowsSaid :=
 OpenClaim.holds_of_cond 3 Tryz.f3 rfl rfl rfl rfl rfl rfl rfl ⟨rfl,rfl,rfl,rfl,rfl⟩ rfl rfl rfl rfl rfl (by kernel_rfl) Tryz.func3 C1f
  (of_decide_eq_true (by kernel_rfl)) (by unfold Func.isWrapper;first|(rw [if_pos (by decide +kernel)];kernel_rfl)|(rw [if_neg (by decide +kernel)];exact ⟨rfl,rfl⟩))
  (fun os started H enc _ F=>by rw [OpenClaim.pre_eq_preRow];exact C1j os started H enc F)
theorem C4a (f:FuncId) (fn:Func) (hf:Tryz.pinned.checked.prog.funcNamed Rows.emitRowsRow.func=some f) (hfn:Tryz.pinned.checked.prog.funcs[f]?=some fn) :
  true=Tryz.pinned.checked.prog.looks []∧∀ (j:Nat) t,fn.params[j]?=some t→Tryz.pinned.checked.prog.wantsStandIn t=false:=by
 obtain rfl:f=3:=Option.some.inj ((show Tryz.prog.funcNamed Rows.emitRowsRow.func=some 3 by kernel_rfl).symm.trans hf) |>.symm
 obtain rfl:fn=Tryz.f3:=(Option.some.inj (Tryz.func3.symm.trans hfn)).symm
 refine ⟨by kernel_rfl,fun j t ht=>?_⟩
 have hall:(Tryz.f3.params.toList.all fun t=>!(Tryz.pinned.checked.prog.wantsStandIn t))=true:=by kernel_rfl
 have:=List.all_eq_true.1 hall t (by simpa using Array.mem_of_getElem? ht)
 simpa using this
theorem emitRows_card:Rows.EmitRowsCardSaid :=
 Claim7.holds_tied_plain_at .later [] _ _ _ _ C5m (fun _ h=>by cases h) (by kernel_rfl) (fun _ h=>by cases h) emitRows_row_tie rfl ⟨rfl,rfl⟩ (by kernel_rfl) rfl C4a (by kernel_rfl)
end Go.Proofs.YtanighkpfmgnbaaGreatDoor
