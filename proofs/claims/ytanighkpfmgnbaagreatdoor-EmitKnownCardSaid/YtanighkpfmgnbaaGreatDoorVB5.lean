import Derived.Test.YtanighkpfmgnbaaGreatDoorProg
import Derived.Test.YtanighkpfmgnbaaGreatDoorVA2
import Derived.Test.YtanighkpfmgnbaaGreatDoorVB1
import Derived.Test.YtanighkpfmgnbaaGreatDoorVA3
import Derived.Test.YtanighkpfmgnbaaGreatDoorVB2
import Derived.Test.YtanighkpfmgnbaaGreatDoorVB3
import Derived.Test.YtanighkpfmgnbaaGreatDoorVB4
set_option linter.unusedVariables false
set_option linter.unusedSimpArgs false
set_option linter.unnecessarySimpa false
set_option maxRecDepth 100000
namespace Go.Proofs.YtanighkpfmgnbaaGreatDoor
open Go Go.Fen
theorem D3j:ApTy Tryz.prog 27 26 6 56:=⟨by kernel_rfl,by kernel_rfl,rfl⟩
end Go.Proofs.YtanighkpfmgnbaaGreatDoor
set_option linter.unusedVariables false
set_option linter.unusedSimpArgs false
set_option linter.unnecessarySimpa false
set_option maxRecDepth 100000
namespace Go.Proofs.YtanighkpfmgnbaaGreatDoor
open Go Go.Fen
def B6k:List UInt8:=[27,91,72,27,91,53,72,27,91,59,53,72,27,91,50,59,51,72]
def B3x:List UInt8:=[27,91,67,27,91,55,67,27,91,74,27,91,50,74]
def B8z:List UInt8:=[27,91,63,50,53,104,27,91,48,36,112,27,91,59,52,114,27,91,32,113]
theorem D3i:Zero Tryz.prog 26 (B0 Act.zero):=⟨by kernel_rfl⟩
def B3k (a:Act):List UInt8×Int :=
 (C1 (N1 ([a]:List Act)) fun (y0:List UInt8×Int)=>(y0.1,y0.2))
theorem C7o (a:Act) (hs:a.text.length≤100000000) (R:List UInt8×Int) (hR:B3k a=R):Con Tryz.prog 20 [ag (B0 a)] [] [B1g,B0c,L9,L3,I9,M9] ({r:VR // VOk 1 R.1.length r}) (fun x=>.tuple #[.slice (va x.1.q) R.1.length x.1.k,iv R.2]) (fun x=>((vo cU8 5 x.1 R.1)++([]))) (fun x=>[]):=by
 refine zco Tryz.func20 [(0,ag (B0 a))] fun X hX hr hD=>?_
 replace hR:=(B3k.eq_1 ..).symm.trans hR
 refine sr 3 rfl (U1 3 0 [] (fun b1=>[(1,pt b1 0)]) (fun b1=>[bx b1 (B0 a) 26]) (fun b1=>?_))
 refine ie (sr 7 rfl (zrl 1 6 [0] [(4,ag (B0 a))] ?_))
 refine it rfl (B9 (c:=B0) (xs:=([a]:List Act)) A1z rfl rfl rfl (by kernel_rfl)) fun b2=>?_
 have:([a]:List Act).length=1:=rfl
 have hQ:=D9 hR;clear hR;obtain ⟨y0,hy0,hR⟩:=hQ
 refine it rfl (B4x (L2:=[bx b1 (B0 a) 26]) (A3i ([a]:List Act) (some ⟨b2,0,none⟩) 1 (by first|omega|(simp<;>omega)|(dsimp only;omega)|decide) (by first|omega|(simp<;>omega)|(dsimp only;omega)|decide) (by first|assumption|decide|exact fun x hx=>Nat.le_trans (hrow x hx) (by decide)|exact fun x hx=>Nat.le_trans (of_decide_eq_true (List.all_eq_true.1 hbt x hx)) (by decide)|(intro x hx;simp only [List.nil_append,List.mem_append] at hx;rcases hx with hx|hx<;>first|exact Nat.le_trans (hrow x hx) (by decide)|exact Nat.le_trans (hpt x hx) (by decide))|(intro x hx;rw [List.mem_singleton.1 hx];omega)|exact fun x hx=>Nat.le_trans (hrow x (List.mem_of_mem_take hx)) (by decide)|exact fun x hx=>Nat.le_trans (hrow x (List.mem_of_mem_drop hx)) (by decide)|exact fun x hx=>Nat.le_trans (hrow x (List.mem_of_mem_drop (List.mem_of_mem_take hx))) (by decide)|omega) y0 hy0) rfl rfl rfl rfl rfl A3.refl (List.Perm.refl _) (fun ⟨r3,hk4⟩=>(bx b1 (B0 a) 26::(vo cU8 5 r3 y0.1)++([]))) (fun ⟨r3,hk4⟩=>S2 [vo cU8 5 r3 y0.1,[bx b1 (B0 a) 26]] [1,0] 2 rfl (by decide) (by first|rfl|simp only [List.flatten_cons,List.flatten_nil,List.append_nil,List.cons_append,List.nil_append,List.append_assoc]) [[bx b1 (B0 a) 26],vo cU8 5 r3 y0.1] rfl (by first|rfl|simp only [List.flatten_cons,List.flatten_nil,List.append_nil,List.cons_append,List.nil_append,List.append_assoc]))) fun ⟨r3,hk4⟩=>?_
 have:=VOk.le hk4
 have:=VOk.cap hk4
 try have:=Z1 ([a]:List Act) (fun x hx=>Nat.le_trans (hrow x (by first|exact hx|exact List.mem_of_mem_take hx|exact List.mem_of_mem_drop hx)) (by decide));try rw [hy0] at this
 refine ip' 4 0 [(2,.slice (va r3.q) y0.1.length r3.k),(3,iv y0.2)] ?_
 subst hR
 refine ie (B4 ?_)
 exact zer hr hD (A9y rfl (D5 rfl) (D5 rfl)) ⟨r3,hk4⟩ (mc [[bx b1 (B0 a) 26],vo cU8 5 r3 y0.1] [false,true] rfl (by first|rfl|(simp only [List.length_set]<;>rfl))) fn0
def A0 (kind:Int) (n:Int) (m:Int):Act :=
 {Act.zero with kind:=kind,n:=n,m:=m}
theorem B8 (kind:Int) (n:Int) (m:Int) (R:Act) (hR:A0 kind n m=R):K5 Tryz.prog 23 [iv kind,iv n,iv m] [] (ag (B0 R)):=by
 refine zco Tryz.func23 [(0,iv kind),(1,iv n),(2,iv m)] fun X hX hr hD=>?_
 replace hR:=(A0.eq_1 ..).symm.trans hR
 refine sr 1 rfl (U1 1 0 [] (fun b1=>[(6,pt b1 0)]) (fun b1=>[bx b1 (B0 Act.zero) 26]) (fun b1=>?_))
 refine ie (sr 5 rfl (zrg 5 0 [0] [] [bx b1 (B0 ({Act.zero with kind:=kind,n:=n,m:=m})) 26] ?_))
 subst hR
 refine ie (B4 ?_)
 exact zer hr hD (Q2 rfl (H0 (us:=B0 ({Act.zero with kind:=kind,n:=n,m:=m})) B1w rfl 0 rfl rfl rfl)) () (mk [false] rfl) fn0
def B2 (s:List UInt8) (l:List Act):Bool :=
 (C1 (N1 l) fun (y0:List UInt8×Int)=>((decide (y0.1=s))&&(decide (y0.2=0))))
theorem Y4 (s:List UInt8) (l:List Act) (lq:Option Addr) (lk:Nat) (hll:l.length≤9223372036854775807) (hcl:l.length≤lk) (hkind:∀ a ∈ l,a.text.length≤100000000) (R:Bool) (hR:B2 s l=R):K5 Tryz.prog 22 [sv s,.slice lq l.length lk] [sl B0 lq l,B1g,B0c,L9,L3,I9,M9] (bv R):=by
 refine zco Tryz.func22 [(0,sv s),(1,.slice lq l.length lk)] fun X hX hr hD=>?_
 replace hR:=(B2.eq_1 ..).symm.trans hR
 refine sr 1 rfl (ip' 1 0 [] ?_)
 refine ie (sr 7 rfl (ip' 1 6 [(8,.slice lq l.length lk)] ?_))
 have hQ:=D9 hR;clear hR;obtain ⟨y0,hy0,hR⟩:=hQ
 refine it rfl (C2 (L2:=[]) (A3i l lq lk (by first|omega|(simp<;>omega)|(dsimp only;omega)|decide) (by first|omega|(simp<;>omega)|(dsimp only;omega)|decide) (by first|assumption|decide|exact fun x hx=>Nat.le_trans (hrow x hx) (by decide)|exact fun x hx=>Nat.le_trans (of_decide_eq_true (List.all_eq_true.1 hbt x hx)) (by decide)|(intro x hx;simp only [List.nil_append,List.mem_append] at hx;rcases hx with hx|hx<;>first|exact Nat.le_trans (hrow x hx) (by decide)|exact Nat.le_trans (hpt x hx) (by decide))|(intro x hx;rw [List.mem_singleton.1 hx];omega)|exact fun x hx=>Nat.le_trans (hrow x (List.mem_of_mem_take hx)) (by decide)|exact fun x hx=>Nat.le_trans (hrow x (List.mem_of_mem_drop hx)) (by decide)|exact fun x hx=>Nat.le_trans (hrow x (List.mem_of_mem_drop (List.mem_of_mem_take hx))) (by decide)|omega) y0 hy0) rfl rfl rfl rfl rfl A3.refl (List.Perm.refl _) (fun ⟨r1,hk2⟩=>((vo cU8 5 r1 y0.1)++([]))) (fun _=>by first|rfl|simp only [List.append_nil,List.cons_append,List.nil_append,List.append_assoc])) fun ⟨r1,hk2⟩=>?_
 have:=VOk.le hk2
 have:=VOk.cap hk2
 try have:=Z1 l (fun x hx=>Nat.le_trans (hrow x (by first|exact hx|exact List.mem_of_mem_take hx|exact List.mem_of_mem_drop hx)) (by decide));try rw [hy0] at this
 refine A3h [] [] (T:=5) (c:=cU8) (r:=r1) (xs:=y0.1) hk2 (by first|rfl|simp only [List.cons_append,List.append_assoc,List.nil_append,List.append_nil]) ?_
 refine ip' 5 0 [(5,.slice (va r1.q) y0.1.length r1.k),(6,iv y0.2)] ?_
 refine ie (sr 9 rfl (ip' 1 8 [(12,.slice (va r1.q) y0.1.length r1.k)] ?_))
 refine ix rfl (B1j Tryz.underlying9 Tryz.underlying30 rfl rfl (A7 0 rfl) rfl (by kernel_rfl)) ?_
 refine ip' 1 6 [(14,sv s)] ?_
 refine ix rfl (B7w rfl rfl rfl) ?_
 refine ip' 1 4 [(16,bv (decide (y0.1=s)))] ?_
 refine zid 3 1 16 19 (decide (y0.2=0)) (fun g3 g3p=>?_) ?_
 ·refine ip' 3 0 [(19,bv (decide (y0.2=0)))] ?_
  exact zai 2 16 19 g3
 refine ip' 1 0 [(4,bv ((decide (y0.1=s))&&(decide (y0.2=0))))] ?_
 subst hR
 refine ie (B4 ?_)
 exact H3 hr hD
def L6:Bool :=
 (((((B2 B6k ([(A0 19 1 1),(A0 19 5 1),(A0 19 1 5),(A0 19 2 3)]:List Act))&&(B2 B3x ([(A0 20 2 1),(A0 20 2 7),(A0 26 0 0),(A0 26 2 0)]:List Act)))&&(B2 ([27,91,49,59,51,49,109,97,27,91,48,109]:List UInt8) ([(A0 39 1 1),{Act.zero with kind:=39,n:=4,color:=(⟨1,1⟩:Col)},(A0 1 97 0),(A0 39 0 0)]:List Act)))&&(B2 B8z ([(A0 37 25 1),(A0 43 0 0),(A0 38 0 4),(A0 40 0 0)]:List Act)))&&(B2 ([27,93,50,59,116,27,92,27,43,48,14]:List UInt8) ([{Act.zero with kind:=44,text:=([116]:List UInt8)},(A0 17 3 1),(A0 7 1 0)]:List Act)))
theorem C0c (R:Bool) (hR:L6=R):K5 Tryz.prog 17 [] [B1g,B0c,L9,L3,I9,M9] (bv R):=by
 refine zco Tryz.func17 [] fun X hX hr hD=>?_
 replace hR:=(L6.eq_1 ..).symm.trans hR
 refine sr 1 rfl (ip' 1 0 [] ?_)
 refine ie (sr 15 rfl (zca (B8 19 1 1 _ rfl) fn0 ?_))
 refine zca (B8 19 5 1 _ rfl) fn0 ?_
 refine zca (B8 19 1 5 _ rfl) fn0 ?_
 refine zca (B8 19 2 3 _ rfl) fn0 ?_
 refine it rfl (B9 (c:=B0) (xs:=([(A0 19 1 1),(A0 19 5 1),(A0 19 1 5),(A0 19 2 3)]:List Act)) A1z rfl rfl rfl (by kernel_rfl)) fun b1=>?_
 have:([(A0 19 1 1),(A0 19 5 1),(A0 19 1 5),(A0 19 2 3)]:List Act).length=4:=rfl
 refine zca (Y4 B6k ([(A0 19 1 1),(A0 19 5 1),(A0 19 1 5),(A0 19 2 3)]:List Act) (some ⟨b1,0,none⟩) 4 (by first|omega|(simp<;>omega)|(dsimp only;omega)|decide) (by first|omega|(simp<;>omega)|(dsimp only;omega)|decide) (by first|assumption|decide|omega) _ rfl) A3.refl ?_
 refine ip' 1 8 [(11,bv (B2 B6k ([(A0 19 1 1),(A0 19 5 1),(A0 19 1 5),(A0 19 2 3)]:List Act)))] ?_
 refine zia 7 1 11 18 (B2 B3x ([(A0 20 2 1),(A0 20 2 7),(A0 26 0 0),(A0 26 2 0)]:List Act)) (fun g2=>?_) ?_
 ·refine zca (B8 20 2 1 _ rfl) fn0 ?_
  refine zca (B8 20 2 7 _ rfl) fn0 ?_
  refine zca (B8 26 0 0 _ rfl) fn0 ?_
  refine zca (B8 26 2 0 _ rfl) fn0 ?_
  refine it rfl (B9 (c:=B0) (xs:=([(A0 20 2 1),(A0 20 2 7),(A0 26 0 0),(A0 26 2 0)]:List Act)) A1z rfl rfl rfl (by kernel_rfl)) fun b3=>?_
  have:([(A0 20 2 1),(A0 20 2 7),(A0 26 0 0),(A0 26 2 0)]:List Act).length=4:=rfl
  refine zca (Y4 B3x ([(A0 20 2 1),(A0 20 2 7),(A0 26 0 0),(A0 26 2 0)]:List Act) (some ⟨b3,0,none⟩) 4 (by first|omega|(simp<;>omega)|(dsimp only;omega)|decide) (by first|omega|(simp<;>omega)|(dsimp only;omega)|decide) (by first|assumption|decide|omega) _ rfl) (A3.pick [0,2,3,4,5,6,7] rfl) ?_
  refine ip' 1 0 [(18,bv (B2 B3x ([(A0 20 2 1),(A0 20 2 7),(A0 26 0 0),(A0 26 2 0)]:List Act)))] ?_
  exact A9 (A0p 8 11 18 g2 (A3.pick [1,2,3,4,5,6,7] rfl) (mk [] rfl) rfl rfl rfl rfl rfl)
 refine ip' 1 0 [(1,bv ((B2 B6k ([(A0 19 1 1),(A0 19 5 1),(A0 19 1 5),(A0 19 2 3)]:List Act))&&(B2 B3x ([(A0 20 2 1),(A0 20 2 7),(A0 26 0 0),(A0 26 2 0)]:List Act))))] ?_
 refine ie (sr 4 rfl (U1 4 0 [0] (fun b4=>[(2,pt b4 0)]) (fun b4=>[bx b4 (B0 ({Act.zero with kind:=39,n:=4,color:=(⟨1,1⟩:Col)})) 26]) (fun b4=>?_)))
 refine ie (sh 7 [(7,[bx b4 (B0 ({Act.zero with kind:=39,n:=4,color:=(⟨1,1⟩:Col)})) 26])] [sl B0 (some ⟨b1,0,none⟩) ([(A0 19 1 1),(A0 19 5 1),(A0 19 1 5),(A0 19 2 3)]:List Act),B1g,B0c,L9,L3,I9,M9] [bx b4 (B0 ({Act.zero with kind:=39,n:=4,color:=(⟨1,1⟩:Col)})) 26] (zml 7 0) (by kernel_rfl) rfl (by kernel_rfl) (by kernel_rfl) (by kernel_rfl) (mk [true] rfl) A3.refl ?_)
 refine zhl 1 [bx b4 (B0 ({Act.zero with kind:=39,n:=4,color:=(⟨1,1⟩:Col)})) 26] (zml 7 2) rfl (I3 (us:=B0 ({Act.zero with kind:=39,n:=4,color:=(⟨1,1⟩:Col)})) B1w rfl rfl 0 rfl rfl rfl) ?_
 refine zho 0 [bx b4 (B0 ({Act.zero with kind:=39,n:=4,color:=(⟨1,1⟩:Col)})) 26] (zml 7 3) rfl (Det.tri (X7 (B8 39 1 1 _ rfl) rfl rfl rfl rfl rfl fn0)) (fun _=>(mk [true] rfl)) (fun _=>A3.refl) fun _=>?_
 refine zho 2 [bx b4 (B0 ({Act.zero with kind:=39,n:=4,color:=(⟨1,1⟩:Col)})) 26] (zml 7 7) rfl (Det.tri (X7 (B8 1 97 0 _ rfl) rfl rfl rfl rfl rfl fn0)) (fun _=>(mk [true] rfl)) (fun _=>A3.refl) fun _=>?_
 refine zho 3 [bx b4 (B0 ({Act.zero with kind:=39,n:=4,color:=(⟨1,1⟩:Col)})) 26] (zml 7 15) rfl (Det.tri (X7 (B8 39 0 0 _ rfl) rfl rfl rfl rfl rfl fn0)) (fun _=>(mk [true] rfl)) (fun _=>A3.refl) fun _=>?_
 refine zho 4 [bx b4 (B0 ({Act.zero with kind:=39,n:=4,color:=(⟨1,1⟩:Col)})) 26] (zml 7 31) rfl (B9 (c:=B0) (xs:=([(A0 39 1 1),{Act.zero with kind:=39,n:=4,color:=(⟨1,1⟩:Col)},(A0 1 97 0),(A0 39 0 0)]:List Act)) A1z rfl rfl rfl (by kernel_rfl)) (fun b5=>(mk [true] rfl)) (fun b5=>(A3.pick [1,2,3,4,5,6,7] rfl)) fun b5=>?_
 have:([(A0 39 1 1),{Act.zero with kind:=39,n:=4,color:=(⟨1,1⟩:Col)},(A0 1 97 0),(A0 39 0 0)]:List Act).length=4:=rfl
 refine zho 5 [bx b4 (B0 ({Act.zero with kind:=39,n:=4,color:=(⟨1,1⟩:Col)})) 26] (zml 7 63) rfl (Det.tri (X7 (Y4 ([27,91,49,59,51,49,109,97,27,91,48,109]:List UInt8) ([(A0 39 1 1),{Act.zero with kind:=39,n:=4,color:=(⟨1,1⟩:Col)},(A0 1 97 0),(A0 39 0 0)]:List Act) (some ⟨b5,0,none⟩) 4 (by first|omega|(simp<;>omega)|(dsimp only;omega)|decide) (by first|omega|(simp<;>omega)|(dsimp only;omega)|decide) (by first|assumption|decide|omega) _ rfl) rfl rfl rfl rfl rfl (A3.pick [0,2,3,4,5,6,7] rfl))) (fun _=>(mk [true] rfl)) (fun _=>(A3.pick [1,2,3,4,5,6,7] rfl)) fun _=>?_
 refine zhp [6] 0 (zml 7 127) [(3,bv (B2 ([27,91,49,59,51,49,109,97,27,91,48,109]:List UInt8) ([(A0 39 1 1),{Act.zero with kind:=39,n:=4,color:=(⟨1,1⟩:Col)},(A0 1 97 0),(A0 39 0 0)]:List Act)))] ?_
 refine A5u (by kernel_rfl) ?_
 refine sr 7 rfl (zca (B8 37 25 1 _ rfl) fn0 ?_)
 refine zca (B8 43 0 0 _ rfl) fn0 ?_
 refine zca (B8 38 0 4 _ rfl) fn0 ?_
 refine zca (B8 40 0 0 _ rfl) fn0 ?_
 refine it rfl (B9 (c:=B0) (xs:=([(A0 37 25 1),(A0 43 0 0),(A0 38 0 4),(A0 40 0 0)]:List Act)) A1z rfl rfl rfl (by kernel_rfl)) fun b6=>?_
 have:([(A0 37 25 1),(A0 43 0 0),(A0 38 0 4),(A0 40 0 0)]:List Act).length=4:=rfl
 refine zca (Y4 B8z ([(A0 37 25 1),(A0 43 0 0),(A0 38 0 4),(A0 40 0 0)]:List Act) (some ⟨b6,0,none⟩) 4 (by first|omega|(simp<;>omega)|(dsimp only;omega)|decide) (by first|omega|(simp<;>omega)|(dsimp only;omega)|decide) (by first|assumption|decide|omega) _ rfl) (A3.pick [0,3,4,5,6,7,8] rfl) ?_
 refine ip' 1 0 [(4,bv (B2 B8z ([(A0 37 25 1),(A0 43 0 0),(A0 38 0 4),(A0 40 0 0)]:List Act)))] ?_
 refine ie (sr 15 rfl (ip' 2 13 [(34,bv ((B2 B6k ([(A0 19 1 1),(A0 19 5 1),(A0 19 1 5),(A0 19 2 3)]:List Act))&&(B2 B3x ([(A0 20 2 1),(A0 20 2 7),(A0 26 0 0),(A0 26 2 0)]:List Act))))] ?_))
 refine zia 2 11 34 36 (B2 ([27,91,49,59,51,49,109,97,27,91,48,109]:List UInt8) ([(A0 39 1 1),{Act.zero with kind:=39,n:=4,color:=(⟨1,1⟩:Col)},(A0 1 97 0),(A0 39 0 0)]:List Act)) (fun g7=>?_) ?_
 ·have g7p:=g7;try simp at g7p
  refine ip' 2 0 [(36,bv (B2 ([27,91,49,59,51,49,109,97,27,91,48,109]:List UInt8) ([(A0 39 1 1),{Act.zero with kind:=39,n:=4,color:=(⟨1,1⟩:Col)},(A0 1 97 0),(A0 39 0 0)]:List Act)))] ?_
  exact zai 2 34 36 g7
 refine ip' 1 10 [(37,bv (((B2 B6k ([(A0 19 1 1),(A0 19 5 1),(A0 19 1 5),(A0 19 2 3)]:List Act))&&(B2 B3x ([(A0 20 2 1),(A0 20 2 7),(A0 26 0 0),(A0 26 2 0)]:List Act)))&&(B2 ([27,91,49,59,51,49,109,97,27,91,48,109]:List UInt8) ([(A0 39 1 1),{Act.zero with kind:=39,n:=4,color:=(⟨1,1⟩:Col)},(A0 1 97 0),(A0 39 0 0)]:List Act))))] ?_
 refine zia 2 8 37 39 (B2 B8z ([(A0 37 25 1),(A0 43 0 0),(A0 38 0 4),(A0 40 0 0)]:List Act)) (fun g8=>?_) ?_
 ·have g8p:=g8;try simp at g8p
  refine ip' 2 0 [(39,bv (B2 B8z ([(A0 37 25 1),(A0 43 0 0),(A0 38 0 4),(A0 40 0 0)]:List Act)))] ?_
  exact zai 2 37 39 g8
 refine ip' 1 7 [(40,bv ((((B2 B6k ([(A0 19 1 1),(A0 19 5 1),(A0 19 1 5),(A0 19 2 3)]:List Act))&&(B2 B3x ([(A0 20 2 1),(A0 20 2 7),(A0 26 0 0),(A0 26 2 0)]:List Act)))&&(B2 ([27,91,49,59,51,49,109,97,27,91,48,109]:List UInt8) ([(A0 39 1 1),{Act.zero with kind:=39,n:=4,color:=(⟨1,1⟩:Col)},(A0 1 97 0),(A0 39 0 0)]:List Act)))&&(B2 B8z ([(A0 37 25 1),(A0 43 0 0),(A0 38 0 4),(A0 40 0 0)]:List Act))))] ?_
 refine zia 6 1 40 46 (B2 ([27,93,50,59,116,27,92,27,43,48,14]:List UInt8) ([{Act.zero with kind:=44,text:=([116]:List UInt8)},(A0 17 3 1),(A0 7 1 0)]:List Act)) (fun g9=>?_) ?_
 ·have g9p:=g9;try simp at g9p
  refine zrl 1 5 [] [(41,ag (B0 ({Act.zero with kind:=44,text:=([116]:List UInt8)})))] ?_
  refine zca (B8 17 3 1 _ rfl) fn0 ?_
  refine zca (B8 7 1 0 _ rfl) fn0 ?_
  refine it rfl (B9 (c:=B0) (xs:=([{Act.zero with kind:=44,text:=([116]:List UInt8)},(A0 17 3 1),(A0 7 1 0)]:List Act)) A1z rfl rfl rfl (by kernel_rfl)) fun b10=>?_
  have:([{Act.zero with kind:=44,text:=([116]:List UInt8)},(A0 17 3 1),(A0 7 1 0)]:List Act).length=3:=rfl
  refine zca (Y4 ([27,93,50,59,116,27,92,27,43,48,14]:List UInt8) ([{Act.zero with kind:=44,text:=([116]:List UInt8)},(A0 17 3 1),(A0 7 1 0)]:List Act) (some ⟨b10,0,none⟩) 3 (by first|omega|(simp<;>omega)|(dsimp only;omega)|decide) (by first|omega|(simp<;>omega)|(dsimp only;omega)|decide) (by first|assumption|decide|omega) _ rfl) (A3.pick [0,4,5,6,7,8,9] rfl) ?_
  refine ip' 1 0 [(46,bv (B2 ([27,93,50,59,116,27,92,27,43,48,14]:List UInt8) ([{Act.zero with kind:=44,text:=([116]:List UInt8)},(A0 17 3 1),(A0 7 1 0)]:List Act)))] ?_
  exact A9 (A0p 7 40 46 g9 (A3.pick [1,2,3,4,5,6,7,8,9] rfl) (mk [true] rfl) rfl rfl rfl rfl rfl)
 refine ip' 1 0 [(0,bv (((((B2 B6k ([(A0 19 1 1),(A0 19 5 1),(A0 19 1 5),(A0 19 2 3)]:List Act))&&(B2 B3x ([(A0 20 2 1),(A0 20 2 7),(A0 26 0 0),(A0 26 2 0)]:List Act)))&&(B2 ([27,91,49,59,51,49,109,97,27,91,48,109]:List UInt8) ([(A0 39 1 1),{Act.zero with kind:=39,n:=4,color:=(⟨1,1⟩:Col)},(A0 1 97 0),(A0 39 0 0)]:List Act)))&&(B2 B8z ([(A0 37 25 1),(A0 43 0 0),(A0 38 0 4),(A0 40 0 0)]:List Act)))&&(B2 ([27,93,50,59,116,27,92,27,43,48,14]:List UInt8) ([{Act.zero with kind:=44,text:=([116]:List UInt8)},(A0 17 3 1),(A0 7 1 0)]:List Act))))] ?_
 subst hR
 refine ie (B4 ?_)
 exact H3 hr hD
theorem D9l {x0 x1 x2 x3 x4 x5:Act} (h0:x0.text.length≤100000000) (h1:x1.text.length≤100000000) (h2:x2.text.length≤100000000) (h3:x3.text.length≤100000000) (h4:x4.text.length≤100000000) (h5:x5.text.length≤100000000) :
  ∀ k:Nat,(([x0,x1,x2,x3,x4,x5]:List Act).getD k Act.zero).text.length≤100000000
 | 0=>h0 | 1=>h1 | 2=>h2 | 3=>h3 | 4=>h4 | 5=>h5 | _+6=>Nat.zero_le _
end Go.Proofs.YtanighkpfmgnbaaGreatDoor
set_option linter.unusedVariables false
set_option linter.unusedSimpArgs false
set_option linter.unnecessarySimpa false
set_option maxRecDepth 100000
namespace Go.Proofs.YtanighkpfmgnbaaGreatDoor
open Go Go.Fen
end Go.Proofs.YtanighkpfmgnbaaGreatDoor
set_option linter.unusedVariables false
set_option linter.unusedSimpArgs false
set_option linter.unnecessarySimpa false
set_option maxRecDepth 100000
namespace Go.Proofs.YtanighkpfmgnbaaGreatDoor
open Go Go.Fen
end Go.Proofs.YtanighkpfmgnbaaGreatDoor
set_option linter.unusedVariables false
set_option linter.unusedSimpArgs false
set_option linter.unnecessarySimpa false
set_option maxRecDepth 100000
namespace Go.Proofs.YtanighkpfmgnbaaGreatDoor
open Go Go.Fen
def A3d:List UInt8:=[7,8,9,10,13,15,27,68,27,69,27,72,27,77,27,55,27,56,27,99,27,62,27,61,27,35,56,27,40,66,27,78,27,79]
def A3r:List UInt8:=[27,91,65,27,91,50,66,27,91,51,68,27,91,69,27,91,52,70,27,91,83,27,91,53,84,27,91,71,27,91,57,100,27,91,73,27,91,90,27,91,64,27,91,80,27,91,88,27,91,76,27,91,77,27,91,54,98]
def A4o:List UInt8:=[27,91,75,27,91,49,75,27,91,103,27,91,51,103,27,91,52,104,27,91,50,48,108,27,91,63,55,108,27,91,114,27,91,50,114,27,91,50,59,53,114,27,91,54,32,113,27,91,53,110,27,91,99,27,91,62,99,27,91,52,36,112,27,91,63,50,53,36,112]
def A7g:List UInt8:=[27,93,52,59,55,59,114,103,98,58,48,48,47,48,48,47,48,49,27,92,27,93,53,50,59,99,59,27,92,228,184,173]
def A7b:Nat→Nat→Int
 | 0,_=>0
 | fu1+1,at_=>0
def A0a:Int :=
 A7b (((([]:List Act).length:Int) - 0).toNat+1) 0
theorem C0i (hkind:∀ a ∈ ([]:List Act),a.text.length≤100000000) (R:Int) (hR:A0a=R):K5 Tryz.prog 15 [.slice none 0 0] [I9,M9,L9,L3] (.tuple #[.slice none 0 0,iv R]):=by
 refine zco Tryz.func15 [(0,.slice none 0 0)] fun X hX hr hD=>?_
 replace hR:=(A0a.eq_1 ..).symm.trans hR
 refine sr 2 rfl (ip' 2 0 [(2,.slice none 0 0)] ?_)
 refine ie (C8k (A8 (sr 3 rfl (ip' 3 0 [(12,bv false)] ?_))))
 refine ie (A5e rfl (B3 (nx (A8 (sr 3 rfl (ip' 3 0 [(13,.slice none 0 0),(14,iv 0),(15,iv 0)] ?_))))))
 refine ie (B5 (A2a 2 ?_))
 refine F2 (sr 1 rfl (ip' 1 0 [(16,bv false)] ?_))
 refine ie (A8 (A5e rfl (J7 (nx (sr 2 rfl (it rfl (C2 (L2:=[]) (B0i _ rfl) rfl rfl rfl rfl rfl A3.refl (List.Perm.refl _) (fun ⟨⟨b1,ml2⟩,hk3⟩=>[(b1,.map (A4 ml2 0).toArray ml2.length)]) (fun _=>rfl)) fun ⟨⟨b1,ml2⟩,hk3⟩=>?_))))))
 refine ip' 1 0 [(7,.map (some b1))] ?_
 refine ie (A8 (C9b (nx (A8 (sr 1 rfl (ip' 1 0 [(8,iv 0)] ?_))))))
 refine ie (B5 (D9y (fun (fu:Nat) (at_:Nat)=>(((([]:List Act).length:Int) - at_).toNat<fu∧A7b fu at_=R∧0≤at_∧at_≤(([]:List Act).length:Int)∧(([]:List UInt8).length:Int)≤100010000 * at_,[(0,.slice none 0 0),(2,.slice none 0 0),(7,.map (some b1)),(8,iv (at_:Int))],[(b1,.map (A4 ml2 0).toArray ml2.length)],[B4i Tryz.prog ml2 tC,I9,M9,L9,L3],fu)) (((([]:List Act).length:Int) - 0).toNat+1) 0 ⟨(Nat.lt_succ_self _),hR,(by omega),(by simp)⟩ (mk [true] rfl) A3.refl ?_))
 rintro fu at_ ⟨hm4,hR,ha,hb⟩
 obtain ⟨fu1,rfl⟩:∃ m,fu=m+1:=⟨fu - 1,by omega⟩
 replace hR:=(A7b.eq_2 ..).symm.trans hR
 refine A8 (sr 4 rfl (ip' 4 0 [(29,bv (decide ((at_:Int)<0)))] ?_))
 refine ie (A1a rfl (fun h5=>?_) (fun h5=>?_))
 ·have h5p:(at_:Int)<0:=by simpa using h5
  exfalso;omega
 have h5p:¬ ((at_:Int)<0):=by simpa using h5
 refine J7 (nx (sr 3 rfl (ip' 3 0 [(2,.slice none 0 0),(3,iv 0)] ?_)))
 subst hR
 refine ie (B4 ?_)
 exact A6f hr hD
def A4b (s:List UInt8):Bool :=
 ((decide (([]:List UInt8)=s))&&(decide (A0a=0)))
theorem C5n (s:List UInt8) (hkind:∀ a ∈ ([]:List Act),a.text.length≤100000000) (R:Bool) (hR:A4b s=R):K5 Tryz.prog 22 [sv s,.slice none 0 0] [I9,M9,L9,L3] (bv R):=by
 refine zco Tryz.func22 [(0,sv s),(1,.slice none 0 0)] fun X hX hr hD=>?_
 replace hR:=(A4b.eq_1 ..).symm.trans hR
 refine sr 1 rfl (ip' 1 0 [] ?_)
 refine ie (sr 7 rfl (ip' 1 6 [(8,.slice none 0 0)] ?_))
 refine zca (C0i (by first|assumption|decide|exact fun x hx=>Nat.le_trans (hrow x hx) (by decide)|exact fun x hx=>Nat.le_trans (of_decide_eq_true (List.all_eq_true.1 hbt x hx)) (by decide)|(intro x hx;simp only [List.nil_append,List.mem_append] at hx;rcases hx with hx|hx<;>first|exact Nat.le_trans (hrow x hx) (by decide)|exact Nat.le_trans (hpt x hx) (by decide))|(intro x hx;rw [List.mem_singleton.1 hx];omega)|exact fun x hx=>Nat.le_trans (hrow x (List.mem_of_mem_take hx)) (by decide)|exact fun x hx=>Nat.le_trans (hrow x (List.mem_of_mem_drop hx)) (by decide)|exact fun x hx=>Nat.le_trans (hrow x (List.mem_of_mem_drop (List.mem_of_mem_take hx))) (by decide)|omega) _ rfl) A3.refl ?_
 try have:=Z1  (fun x hx=>Nat.le_trans (hrow x (by first|exact hx|exact List.mem_of_mem_take hx|exact List.mem_of_mem_drop hx)) (by decide));try rw [(rfl:A0a=_)] at this
 refine ip' 5 0 [(5,.slice none 0 0),(6,iv A0a)] ?_
 refine ie (sr 9 rfl (ip' 1 8 [(12,.slice none 0 0)] ?_))
 refine ix rfl (C4j Tryz.underlying9 Tryz.underlying30 rfl rfl (by kernel_rfl)) ?_
 have:([]:List UInt8).length=0:=rfl
 refine ip' 1 6 [(14,sv s)] ?_
 refine ix rfl (B7w rfl rfl rfl) ?_
 refine ip' 1 4 [(16,bv (decide (([]:List UInt8)=s)))] ?_
 refine zid 3 1 16 19 (decide (A0a=0)) (fun g1 g1p=>?_) ?_
 ·refine ip' 3 0 [(19,bv (decide (A0a=0)))] ?_
  exact zai 2 16 19 g1
 refine ip' 1 0 [(4,bv ((decide (([]:List UInt8)=s))&&(decide (A0a=0))))] ?_
 subst hR
 refine ie (B4 ?_)
 exact H3 hr hD
theorem C5a {n:Nat}:∀ x ∈ List.replicate n Act.zero,x.text.length≤100000000:=fun x hx=>by rw [List.eq_of_mem_replicate hx];exact Nat.zero_le _
theorem D3c {l:List Act} (h:∀ a ∈ l,a.text.length≤100000000) {k:Nat} {a:Act} (ha:a.text.length≤100000000):∀ x ∈ l.set k a,x.text.length≤100000000:=fun x hx=>by
 rcases List.mem_or_eq_of_mem_set hx with hx | rfl
 ·exact h x hx
 ·exact ha
def K3 (pens:List Act):Nat→List Act→Nat→Bool
 | 0,_,_=>false
 | fu3+1,many5,i1=>(bif (decide ((i1:Int)<5000)) then K3 pens fu3 (many5.set i1 (A0 1 120 0)) (i1+1) else (C1 (N1 (List.replicate (131073:Nat) Act.zero)) fun (y0:List UInt8×Int)=>(C1 (N1 many5) fun (y1:List UInt8×Int)=>(C1 (N1 ([(A0 2 0 0),(A0 20 0 0)]:List Act)) fun (y2:List UInt8×Int)=>(C1 (B3k Act.zero) fun (y3:List UInt8×Int)=>(((((((((((L6&&(B2 A3d ([(A0 2 0 0),(A0 3 0 0),(A0 4 0 0),(A0 5 0 0),(A0 6 0 0),(A0 7 0 0),(A0 8 0 0),(A0 9 0 0),(A0 10 0 0),(A0 11 0 0),(A0 12 0 0),(A0 13 0 0),(A0 15 0 0),(A0 14 0 0),(A0 14 1 0),(A0 16 0 0),(A0 17 0 0),(A0 18 2 0),(A0 18 3 0)]:List Act)))&&(B2 A3r ([(A0 20 0 1),(A0 20 1 2),(A0 20 3 3),(A0 21 0 1),(A0 21 1 4),(A0 33 0 1),(A0 33 1 5),(A0 22 1 0),(A0 23 9 0),(A0 24 1 0),(A0 25 1 0),(A0 28 1 0),(A0 29 1 0),(A0 30 1 0),(A0 31 1 0),(A0 32 1 0),(A0 34 6 0)]:List Act)))&&(B2 A4o ([(A0 27 0 0),(A0 27 1 0),(A0 35 0 0),(A0 35 3 0),(A0 36 4 1),(A0 36 20 0),(A0 37 7 0),(A0 38 0 0),(A0 38 2 0),(A0 38 2 5),(A0 40 6 0),(A0 41 5 0),(A0 42 0 0),(A0 42 1 0),(A0 43 4 0),(A0 43 25 1)]:List Act)))&&(B2 ((([27,91]:List UInt8)++(P6 ([48,59]:List UInt8) 15))++([48,109,27,91,48,109]:List UInt8)) pens))&&(B2 A7g ([{Act.zero with kind:=45,n:=7,color:=(⟨2,1⟩:Col)},{Act.zero with kind:=46},(A0 1 20013 0)]:List Act)))&&(decide (y0.2=3)))&&(decide (y1.2=0)))&&(decide ((y1.1.length:Int)=5000)))&&(decide (y2.2=200)))&&(decide (y3.2=200)))&&(A4b ([]:List UInt8))))))))
def R4:Nat→List Act→Nat→Bool
 | 0,_,_=>false
 | fu1+1,pens,i=>(bif (decide ((i:Int)<17)) then R4 fu1 (pens++([(A0 39 0 0)]:List Act)) (i+1) else K3 pens ((5000 - 0)+1) (List.replicate (5000:Nat) Act.zero) 0)
def A5a:Bool :=
 R4 ((17 - 0)+1) ([]:List Act) 0
theorem B3q (R:Bool) (hR:A5a=R):K5 Tryz.prog 7 [] [B1g,B0c,L9,L3,I9,M9] (bv R):=by
 refine zco Tryz.func7 [] fun X hX hr hD=>?_
 replace hR:=(A5a.eq_1 ..).symm.trans hR
 refine sr 1 rfl (ip' 1 0 [] ?_)
 refine ie (sr 22 rfl (zca (B8 2 0 0 _ rfl) fn0 ?_))
 refine zca (B8 3 0 0 _ rfl) fn0 ?_
 refine zca (B8 4 0 0 _ rfl) fn0 ?_
 refine zca (B8 5 0 0 _ rfl) fn0 ?_
 refine zca (B8 6 0 0 _ rfl) fn0 ?_
 refine zca (B8 7 0 0 _ rfl) fn0 ?_
 refine zca (B8 8 0 0 _ rfl) fn0 ?_
 refine zca (B8 9 0 0 _ rfl) fn0 ?_
 refine zca (B8 10 0 0 _ rfl) fn0 ?_
 refine zca (B8 11 0 0 _ rfl) fn0 ?_
 refine zca (B8 12 0 0 _ rfl) fn0 ?_
 refine zca (B8 13 0 0 _ rfl) fn0 ?_
 refine zca (B8 15 0 0 _ rfl) fn0 ?_
 refine zca (B8 14 0 0 _ rfl) fn0 ?_
 refine zca (B8 14 1 0 _ rfl) fn0 ?_
 refine zca (B8 16 0 0 _ rfl) fn0 ?_
 refine zca (B8 17 0 0 _ rfl) fn0 ?_
 refine zca (B8 18 2 0 _ rfl) fn0 ?_
 refine zca (B8 18 3 0 _ rfl) fn0 ?_
 refine it rfl (B9 (c:=B0) (xs:=([(A0 2 0 0),(A0 3 0 0),(A0 4 0 0),(A0 5 0 0),(A0 6 0 0),(A0 7 0 0),(A0 8 0 0),(A0 9 0 0),(A0 10 0 0),(A0 11 0 0),(A0 12 0 0),(A0 13 0 0),(A0 15 0 0),(A0 14 0 0),(A0 14 1 0),(A0 16 0 0),(A0 17 0 0),(A0 18 2 0),(A0 18 3 0)]:List Act)) A1z rfl rfl rfl (by kernel_rfl)) fun b1=>?_
 have:([(A0 2 0 0),(A0 3 0 0),(A0 4 0 0),(A0 5 0 0),(A0 6 0 0),(A0 7 0 0),(A0 8 0 0),(A0 9 0 0),(A0 10 0 0),(A0 11 0 0),(A0 12 0 0),(A0 13 0 0),(A0 15 0 0),(A0 14 0 0),(A0 14 1 0),(A0 16 0 0),(A0 17 0 0),(A0 18 2 0),(A0 18 3 0)]:List Act).length=19:=rfl
 refine zca (Y4 A3d ([(A0 2 0 0),(A0 3 0 0),(A0 4 0 0),(A0 5 0 0),(A0 6 0 0),(A0 7 0 0),(A0 8 0 0),(A0 9 0 0),(A0 10 0 0),(A0 11 0 0),(A0 12 0 0),(A0 13 0 0),(A0 15 0 0),(A0 14 0 0),(A0 14 1 0),(A0 16 0 0),(A0 17 0 0),(A0 18 2 0),(A0 18 3 0)]:List Act) (some ⟨b1,0,none⟩) 19 (by first|omega|(simp<;>omega)|(dsimp only;omega)|decide) (by first|omega|(simp<;>omega)|(dsimp only;omega)|decide) (by first|assumption|decide|omega) _ rfl) A3.refl ?_
 refine ip' 1 0 [(1,bv (B2 A3d ([(A0 2 0 0),(A0 3 0 0),(A0 4 0 0),(A0 5 0 0),(A0 6 0 0),(A0 7 0 0),(A0 8 0 0),(A0 9 0 0),(A0 10 0 0),(A0 11 0 0),(A0 12 0 0),(A0 13 0 0),(A0 15 0 0),(A0 14 0 0),(A0 14 1 0),(A0 16 0 0),(A0 17 0 0),(A0 18 2 0),(A0 18 3 0)]:List Act)))] ?_
 refine ie (sr 20 rfl (zca (B8 20 0 1 _ rfl) fn0 ?_))
 refine zca (B8 20 1 2 _ rfl) fn0 ?_
 refine zca (B8 20 3 3 _ rfl) fn0 ?_
 refine zca (B8 21 0 1 _ rfl) fn0 ?_
 refine zca (B8 21 1 4 _ rfl) fn0 ?_
 refine zca (B8 33 0 1 _ rfl) fn0 ?_
 refine zca (B8 33 1 5 _ rfl) fn0 ?_
 refine zca (B8 22 1 0 _ rfl) fn0 ?_
 refine zca (B8 23 9 0 _ rfl) fn0 ?_
 refine zca (B8 24 1 0 _ rfl) fn0 ?_
 refine zca (B8 25 1 0 _ rfl) fn0 ?_
 refine zca (B8 28 1 0 _ rfl) fn0 ?_
 refine zca (B8 29 1 0 _ rfl) fn0 ?_
 refine zca (B8 30 1 0 _ rfl) fn0 ?_
 refine zca (B8 31 1 0 _ rfl) fn0 ?_
 refine zca (B8 32 1 0 _ rfl) fn0 ?_
 refine zca (B8 34 6 0 _ rfl) fn0 ?_
 refine it rfl (B9 (c:=B0) (xs:=([(A0 20 0 1),(A0 20 1 2),(A0 20 3 3),(A0 21 0 1),(A0 21 1 4),(A0 33 0 1),(A0 33 1 5),(A0 22 1 0),(A0 23 9 0),(A0 24 1 0),(A0 25 1 0),(A0 28 1 0),(A0 29 1 0),(A0 30 1 0),(A0 31 1 0),(A0 32 1 0),(A0 34 6 0)]:List Act)) A1z rfl rfl rfl (by kernel_rfl)) fun b2=>?_
 have:([(A0 20 0 1),(A0 20 1 2),(A0 20 3 3),(A0 21 0 1),(A0 21 1 4),(A0 33 0 1),(A0 33 1 5),(A0 22 1 0),(A0 23 9 0),(A0 24 1 0),(A0 25 1 0),(A0 28 1 0),(A0 29 1 0),(A0 30 1 0),(A0 31 1 0),(A0 32 1 0),(A0 34 6 0)]:List Act).length=17:=rfl
 refine zca (Y4 A3r ([(A0 20 0 1),(A0 20 1 2),(A0 20 3 3),(A0 21 0 1),(A0 21 1 4),(A0 33 0 1),(A0 33 1 5),(A0 22 1 0),(A0 23 9 0),(A0 24 1 0),(A0 25 1 0),(A0 28 1 0),(A0 29 1 0),(A0 30 1 0),(A0 31 1 0),(A0 32 1 0),(A0 34 6 0)]:List Act) (some ⟨b2,0,none⟩) 17 (by first|omega|(simp<;>omega)|(dsimp only;omega)|decide) (by first|omega|(simp<;>omega)|(dsimp only;omega)|decide) (by first|assumption|decide|omega) _ rfl) (A3.pick [0,2,3,4,5,6,7] rfl) ?_
 refine ip' 1 0 [(2,bv (B2 A3r ([(A0 20 0 1),(A0 20 1 2),(A0 20 3 3),(A0 21 0 1),(A0 21 1 4),(A0 33 0 1),(A0 33 1 5),(A0 22 1 0),(A0 23 9 0),(A0 24 1 0),(A0 25 1 0),(A0 28 1 0),(A0 29 1 0),(A0 30 1 0),(A0 31 1 0),(A0 32 1 0),(A0 34 6 0)]:List Act)))] ?_
 refine ie (sr 19 rfl (zca (B8 27 0 0 _ rfl) fn0 ?_))
 refine zca (B8 27 1 0 _ rfl) fn0 ?_
 refine zca (B8 35 0 0 _ rfl) fn0 ?_
 refine zca (B8 35 3 0 _ rfl) fn0 ?_
 refine zca (B8 36 4 1 _ rfl) fn0 ?_
 refine zca (B8 36 20 0 _ rfl) fn0 ?_
 refine zca (B8 37 7 0 _ rfl) fn0 ?_
 refine zca (B8 38 0 0 _ rfl) fn0 ?_
 refine zca (B8 38 2 0 _ rfl) fn0 ?_
 refine zca (B8 38 2 5 _ rfl) fn0 ?_
 refine zca (B8 40 6 0 _ rfl) fn0 ?_
 refine zca (B8 41 5 0 _ rfl) fn0 ?_
 refine zca (B8 42 0 0 _ rfl) fn0 ?_
 refine zca (B8 42 1 0 _ rfl) fn0 ?_
 refine zca (B8 43 4 0 _ rfl) fn0 ?_
 refine zca (B8 43 25 1 _ rfl) fn0 ?_
 refine it rfl (B9 (c:=B0) (xs:=([(A0 27 0 0),(A0 27 1 0),(A0 35 0 0),(A0 35 3 0),(A0 36 4 1),(A0 36 20 0),(A0 37 7 0),(A0 38 0 0),(A0 38 2 0),(A0 38 2 5),(A0 40 6 0),(A0 41 5 0),(A0 42 0 0),(A0 42 1 0),(A0 43 4 0),(A0 43 25 1)]:List Act)) A1z rfl rfl rfl (by kernel_rfl)) fun b3=>?_
 have:([(A0 27 0 0),(A0 27 1 0),(A0 35 0 0),(A0 35 3 0),(A0 36 4 1),(A0 36 20 0),(A0 37 7 0),(A0 38 0 0),(A0 38 2 0),(A0 38 2 5),(A0 40 6 0),(A0 41 5 0),(A0 42 0 0),(A0 42 1 0),(A0 43 4 0),(A0 43 25 1)]:List Act).length=16:=rfl
 refine zca (Y4 A4o ([(A0 27 0 0),(A0 27 1 0),(A0 35 0 0),(A0 35 3 0),(A0 36 4 1),(A0 36 20 0),(A0 37 7 0),(A0 38 0 0),(A0 38 2 0),(A0 38 2 5),(A0 40 6 0),(A0 41 5 0),(A0 42 0 0),(A0 42 1 0),(A0 43 4 0),(A0 43 25 1)]:List Act) (some ⟨b3,0,none⟩) 16 (by first|omega|(simp<;>omega)|(dsimp only;omega)|decide) (by first|omega|(simp<;>omega)|(dsimp only;omega)|decide) (by first|assumption|decide|omega) _ rfl) (A3.pick [0,3,4,5,6,7,8] rfl) ?_
 refine ip' 1 0 [(3,bv (B2 A4o ([(A0 27 0 0),(A0 27 1 0),(A0 35 0 0),(A0 35 3 0),(A0 36 4 1),(A0 36 20 0),(A0 37 7 0),(A0 38 0 0),(A0 38 2 0),(A0 38 2 5),(A0 40 6 0),(A0 41 5 0),(A0 42 0 0),(A0 42 1 0),(A0 43 4 0),(A0 43 25 1)]:List Act)))] ?_
 refine ie (sr 1 rfl (ip' 1 0 [(4,.slice none 0 0)] ?_))
 refine ie (A8 (sr 1 rfl (ip' 1 0 [(5,iv 0)] ?_)))
 refine ie (B5 ?_)
 refine B9z (fun (fu:Nat) (pens:List Act) (pensr:VR) (i:Nat)=>((17 - i)<fu∧R4 fu pens i=R∧VOk 6 pens.length pensr∧(pens.length≤i∧i≤17)∧(∀ a ∈ pens,a.text.length≤100000000),[(1,bv (B2 A3d ([(A0 2 0 0),(A0 3 0 0),(A0 4 0 0),(A0 5 0 0),(A0 6 0 0),(A0 7 0 0),(A0 8 0 0),(A0 9 0 0),(A0 10 0 0),(A0 11 0 0),(A0 12 0 0),(A0 13 0 0),(A0 15 0 0),(A0 14 0 0),(A0 14 1 0),(A0 16 0 0),(A0 17 0 0),(A0 18 2 0),(A0 18 3 0)]:List Act))),(2,bv (B2 A3r ([(A0 20 0 1),(A0 20 1 2),(A0 20 3 3),(A0 21 0 1),(A0 21 1 4),(A0 33 0 1),(A0 33 1 5),(A0 22 1 0),(A0 23 9 0),(A0 24 1 0),(A0 25 1 0),(A0 28 1 0),(A0 29 1 0),(A0 30 1 0),(A0 31 1 0),(A0 32 1 0),(A0 34 6 0)]:List Act))),(3,bv (B2 A4o ([(A0 27 0 0),(A0 27 1 0),(A0 35 0 0),(A0 35 3 0),(A0 36 4 1),(A0 36 20 0),(A0 37 7 0),(A0 38 0 0),(A0 38 2 0),(A0 38 2 5),(A0 40 6 0),(A0 41 5 0),(A0 42 0 0),(A0 42 1 0),(A0 43 4 0),(A0 43 25 1)]:List Act))),(4,.slice (va pensr.q) pens.length pensr.k),(5,iv (i:Int))],((vo B0 26 pensr pens)++([])),[sl B0 (some ⟨b3,0,none⟩) ([(A0 27 0 0),(A0 27 1 0),(A0 35 0 0),(A0 35 3 0),(A0 36 4 1),(A0 36 20 0),(A0 37 7 0),(A0 38 0 0),(A0 38 2 0),(A0 38 2 5),(A0 40 6 0),(A0 41 5 0),(A0 42 0 0),(A0 42 1 0),(A0 43 4 0),(A0 43 25 1)]:List Act),sl B0 (some ⟨b2,0,none⟩) ([(A0 20 0 1),(A0 20 1 2),(A0 20 3 3),(A0 21 0 1),(A0 21 1 4),(A0 33 0 1),(A0 33 1 5),(A0 22 1 0),(A0 23 9 0),(A0 24 1 0),(A0 25 1 0),(A0 28 1 0),(A0 29 1 0),(A0 30 1 0),(A0 31 1 0),(A0 32 1 0),(A0 34 6 0)]:List Act),sl B0 (some ⟨b1,0,none⟩) ([(A0 2 0 0),(A0 3 0 0),(A0 4 0 0),(A0 5 0 0),(A0 6 0 0),(A0 7 0 0),(A0 8 0 0),(A0 9 0 0),(A0 10 0 0),(A0 11 0 0),(A0 12 0 0),(A0 13 0 0),(A0 15 0 0),(A0 14 0 0),(A0 14 1 0),(A0 16 0 0),(A0 17 0 0),(A0 18 2 0),(A0 18 3 0)]:List Act),B1g,B0c,L9,L3,I9,M9],fu)) ((17 - 0)+1) ([]:List Act) VR.nil 0 ⟨(Nat.lt_succ_self _),hR,VOk.nil,(by (simp)),(by intro x hx;cases hx)⟩ (mc [vo B0 26 VR.nil ([]:List Act)] [true] rfl (by first|rfl|(simp only [List.length_set]<;>rfl))) A3.refl ?_
 rintro fu pens pensr i ⟨hm4,hR,hokpensr,hp,hpk⟩
 have:=VOk.le hokpensr
 obtain ⟨fu1,rfl⟩:∃ m,fu=m+1:=⟨fu - 1,by omega⟩
 replace hR:=(R4.eq_2 ..).symm.trans hR
 refine A8 (sr 2 rfl (ip' 2 0 [(77,bv (decide ((i:Int)<17)))] ?_))
 refine ie ?_
 refine zjd rfl hR ?_ ?_<;>clear hR<;>intro hR h5 h5p
 ·refine B3 (nx (A8 (B5 (A5 5 rfl (ip' 1 4 [(80,.slice (va pensr.q) pens.length pensr.k)] ?_)))))
  refine zca (B8 39 0 0 _ rfl) fn0 ?_
  refine it rfl (B9 (c:=B0) (xs:=([(A0 39 0 0)]:List Act)) A1z rfl rfl rfl (by kernel_rfl)) fun b6=>?_
  have:([(A0 39 0 0)]:List Act).length=1:=rfl
  refine it rfl (B0z (f:=B0) (r:=pensr) (xs:=pens) (ys:=([(A0 39 0 0)]:List Act)) (pre:=[]) (post:=[]) D3j (fun _=>rfl) (fun _=>rfl) rfl rfl rfl rfl rfl rfl rfl rfl rfl (A7 0 rfl) hokpensr (by first|omega|(simp<;>omega)) (by first|omega|(simp<;>omega))) fun ⟨r7,hr8⟩=>?_
  have:=VOk.le hr8
  have:=VOk.cap hr8
  refine ip' 1 0 [(4,.slice (va r7.q) ((pens++([(A0 39 0 0)]:List Act)).length) r7.k)] ?_
  refine A9 (nx (A5 3 rfl (ip' 1 2 [(78,iv (i:Int))] ?_)))
  refine ix rfl (C3 rfl rfl rfl rfl (by omega)) ?_
  refine ip' 1 0 [(5,iv ((i:Int)+1))] ?_
  refine A9 ?_
  exact B6v (z1:=(fu1+1)) (z2:=pens) (z3:=pensr) (z4:=i) fu1 (pens++([(A0 39 0 0)]:List Act)) r7 (i+1) ⟨(by omega),hR,hr8,(by (simp<;>omega)),(by intro x hx;rcases List.mem_append.1 hx with hx|hx;exact hpk x hx;rw [List.mem_singleton.1 hx];exact Nat.zero_le _)⟩ (Nat.lt_succ_self _) (mc [vo B0 26 r7 (pens++([(A0 39 0 0)]:List Act))] [true] rfl (by first|rfl|(simp only [List.length_set]<;>rfl))) (A3.pick [1,2,3,4,5,6,7,8,9] rfl)
 refine J7 (nx (sr 6 rfl (zca (C3x ([48,59]:List UInt8) 15 (by first|omega|(simp<;>omega)) (by first|omega|(simp<;>omega)) (by first|omega|(simp<;>omega))) fn0 ?_)))
 have:=B0k ([48,59]:List UInt8) 15;try simp only [List.length_cons,List.length_nil] at this
 refine ix rfl (zst rfl rfl rfl) ?_
 refine ix rfl (zst rfl rfl rfl) ?_
 refine ip' 1 2 [(87,.slice (va pensr.q) pens.length pensr.k)] ?_
 have:=VOk.cap hokpensr
 have:=VOk.le hokpensr
 refine A3h [] [] (T:=26) (c:=B0) (r:=pensr) (xs:=pens) hokpensr (by first|rfl|simp only [List.cons_append,List.append_assoc,List.nil_append,List.append_nil]) ?_
 refine zca (Y4 ((([27,91]:List UInt8)++(P6 ([48,59]:List UInt8) 15))++([48,109,27,91,48,109]:List UInt8)) pens (va pensr.q) pensr.k (by first|omega|(simp<;>omega)|(dsimp only;omega)|decide) (by first|omega|(simp<;>omega)|(dsimp only;omega)|decide) (by first|assumption|decide|omega) _ rfl) (A3.pick [0,4,5,6,7,8,9] rfl) ?_
 refine ip' 1 0 [(6,bv (B2 ((([27,91]:List UInt8)++(P6 ([48,59]:List UInt8) 15))++([48,109,27,91,48,109]:List UInt8)) pens))] ?_
 refine ie (sr 7 rfl (zrl 3 4 [] [(90,ag (B0 ({Act.zero with kind:=45,n:=7,color:=(⟨2,1⟩:Col)}))),(91,ag (B0 ({Act.zero with kind:=46})))] ?_))
 refine zca (B8 1 20013 0 _ rfl) fn0 ?_
 refine it rfl (B9 (c:=B0) (xs:=([{Act.zero with kind:=45,n:=7,color:=(⟨2,1⟩:Col)},{Act.zero with kind:=46},(A0 1 20013 0)]:List Act)) A1z rfl rfl rfl (by kernel_rfl)) fun b9=>?_
 have:([{Act.zero with kind:=45,n:=7,color:=(⟨2,1⟩:Col)},{Act.zero with kind:=46},(A0 1 20013 0)]:List Act).length=3:=rfl
 refine zca (Y4 A7g ([{Act.zero with kind:=45,n:=7,color:=(⟨2,1⟩:Col)},{Act.zero with kind:=46},(A0 1 20013 0)]:List Act) (some ⟨b9,0,none⟩) 3 (by first|omega|(simp<;>omega)|(dsimp only;omega)|decide) (by first|omega|(simp<;>omega)|(dsimp only;omega)|decide) (by first|assumption|decide|omega) _ rfl) (A3.pick [0,5,6,7,8,9,10] rfl) ?_
 refine ip' 1 0 [(7,bv (B2 A7g ([{Act.zero with kind:=45,n:=7,color:=(⟨2,1⟩:Col)},{Act.zero with kind:=46},(A0 1 20013 0)]:List Act)))] ?_
 refine ie (sr 2 rfl (it rfl (C4e (f:=B0) (l:=(5000:Nat)) (c:=(5000:Nat)) Act.zero D3j D3i.ok (fun _=>rfl) rfl rfl rfl (by omega) (by first|omega|(simp<;>omega)) (by omega)) fun ⟨r10,hr11⟩=>?_))
 have:=VOk.le hr11
 have:=VOk.cap hr11
 refine ip' 1 0 [(8,.slice (va r10.q) ((List.replicate (5000:Nat) Act.zero).length) r10.k)] ?_
 refine ie (A8 (sr 1 rfl (ip' 1 0 [(9,iv 0)] ?_)))
 refine ie (B5 ?_)
 refine B9z (fun (fu2:Nat) (many5:List Act) (many5r:VR) (i1:Nat)=>((5000 - i1)<fu2∧K3 pens fu2 many5 i1=R∧VOk 6 many5.length many5r∧many5.length=5000∧(∀ a ∈ many5,a.text.length≤100000000),[(1,bv (B2 A3d ([(A0 2 0 0),(A0 3 0 0),(A0 4 0 0),(A0 5 0 0),(A0 6 0 0),(A0 7 0 0),(A0 8 0 0),(A0 9 0 0),(A0 10 0 0),(A0 11 0 0),(A0 12 0 0),(A0 13 0 0),(A0 15 0 0),(A0 14 0 0),(A0 14 1 0),(A0 16 0 0),(A0 17 0 0),(A0 18 2 0),(A0 18 3 0)]:List Act))),(2,bv (B2 A3r ([(A0 20 0 1),(A0 20 1 2),(A0 20 3 3),(A0 21 0 1),(A0 21 1 4),(A0 33 0 1),(A0 33 1 5),(A0 22 1 0),(A0 23 9 0),(A0 24 1 0),(A0 25 1 0),(A0 28 1 0),(A0 29 1 0),(A0 30 1 0),(A0 31 1 0),(A0 32 1 0),(A0 34 6 0)]:List Act))),(3,bv (B2 A4o ([(A0 27 0 0),(A0 27 1 0),(A0 35 0 0),(A0 35 3 0),(A0 36 4 1),(A0 36 20 0),(A0 37 7 0),(A0 38 0 0),(A0 38 2 0),(A0 38 2 5),(A0 40 6 0),(A0 41 5 0),(A0 42 0 0),(A0 42 1 0),(A0 43 4 0),(A0 43 25 1)]:List Act))),(6,bv (B2 ((([27,91]:List UInt8)++(P6 ([48,59]:List UInt8) 15))++([48,109,27,91,48,109]:List UInt8)) pens)),(7,bv (B2 A7g ([{Act.zero with kind:=45,n:=7,color:=(⟨2,1⟩:Col)},{Act.zero with kind:=46},(A0 1 20013 0)]:List Act))),(8,.slice (va many5r.q) many5.length many5r.k),(9,iv (i1:Int))],((vo B0 26 many5r many5)++([])),[sl B0 (some ⟨b9,0,none⟩) ([{Act.zero with kind:=45,n:=7,color:=(⟨2,1⟩:Col)},{Act.zero with kind:=46},(A0 1 20013 0)]:List Act),sl B0 (va pensr.q) pens,sl B0 (some ⟨b3,0,none⟩) ([(A0 27 0 0),(A0 27 1 0),(A0 35 0 0),(A0 35 3 0),(A0 36 4 1),(A0 36 20 0),(A0 37 7 0),(A0 38 0 0),(A0 38 2 0),(A0 38 2 5),(A0 40 6 0),(A0 41 5 0),(A0 42 0 0),(A0 42 1 0),(A0 43 4 0),(A0 43 25 1)]:List Act),sl B0 (some ⟨b2,0,none⟩) ([(A0 20 0 1),(A0 20 1 2),(A0 20 3 3),(A0 21 0 1),(A0 21 1 4),(A0 33 0 1),(A0 33 1 5),(A0 22 1 0),(A0 23 9 0),(A0 24 1 0),(A0 25 1 0),(A0 28 1 0),(A0 29 1 0),(A0 30 1 0),(A0 31 1 0),(A0 32 1 0),(A0 34 6 0)]:List Act),sl B0 (some ⟨b1,0,none⟩) ([(A0 2 0 0),(A0 3 0 0),(A0 4 0 0),(A0 5 0 0),(A0 6 0 0),(A0 7 0 0),(A0 8 0 0),(A0 9 0 0),(A0 10 0 0),(A0 11 0 0),(A0 12 0 0),(A0 13 0 0),(A0 15 0 0),(A0 14 0 0),(A0 14 1 0),(A0 16 0 0),(A0 17 0 0),(A0 18 2 0),(A0 18 3 0)]:List Act),B1g,B0c,L9,L3,I9,M9],fu2)) ((5000 - 0)+1) (List.replicate (5000:Nat) Act.zero) r10 0 ⟨(Nat.lt_succ_self _),hR,hr11,(by exact List.length_replicate),(by exact C5a)⟩ (mc [vo B0 26 r10 (List.replicate (5000:Nat) Act.zero)] [true] rfl (by first|rfl|(simp only [List.length_set]<;>rfl))) A3.refl ?_
 rintro fu2 many5 many5r i1 ⟨hm12,hR,hokmany5r,hm5,hmk⟩
 have:=VOk.le hokmany5r
 obtain ⟨fu3,rfl⟩:∃ m,fu2=m+1:=⟨fu2 - 1,by omega⟩
 unfold K3 at hR
 have hzt:Act.zero.text.length≤100000000:=Nat.zero_le _
 have hrt:∀ a ∈ List.replicate (131073:Nat) Act.zero,a.text.length≤100000000:=C5a
 refine A8 (sr 2 rfl (ip' 2 0 [(97,bv (decide ((i1:Int)<5000)))] ?_))
 refine ie ?_
 refine zjd rfl hR ?_ ?_<;>clear hR<;>intro hR h13 h13p
 ·refine B3 (nx (A8 (B5 (A5 5 rfl (ip' 2 3 [(100,.slice (va many5r.q) many5.length many5r.k),(101,iv (i1:Int))] ?_)))))
  refine zca (B8 1 120 0 _ rfl) fn0 ?_
  obtain ⟨b14,hb15⟩:=VOk.some hokmany5r (by omega)
  obtain ⟨q16,k17,j18⟩:=many5r
  obtain rfl:q16=some b14:=hb15
  refine ix rfl (C6b A1z rfl rfl rfl i1 rfl (by omega)) ?_
  refine it rfl (C0a (us:=B0 (A0 1 120 0)) (u':=(A0 1 120 0)) (c:=B0) (sz:=6) B1w (fun _=>rfl) rfl rfl rfl 0 rfl rfl rfl rfl i1 0 rfl (gd Act.zero (by omega)) rfl rfl) fun _=>?_
  refine A9 (nx (A5 3 rfl (ip' 1 2 [(98,iv (i1:Int))] ?_)))
  refine ix rfl (C3 rfl rfl rfl rfl (by omega)) ?_
  refine ip' 1 0 [(9,iv ((i1:Int)+1))] ?_
  refine A9 ?_
  exact B6v (z1:=(fu3+1)) (z2:=many5) (z3:=(⟨some b14,k17,j18⟩:VR)) (z4:=i1) fu3 (many5.set i1 (A0 1 120 0)) (⟨some b14,k17,j18⟩:VR) (i1+1) ⟨(by omega),hR,(VOk.cast hokmany5r (by simp)),(by (rw [List.length_set];exact hm5)),(by exact D3c hmk (Nat.zero_le _))⟩ (Nat.lt_succ_self _) (mc [vo B0 26 (⟨some b14,k17,j18⟩:VR) (many5.set i1 (A0 1 120 0))] [true] rfl (by first|rfl|(simp only [List.length_set]<;>rfl))) A3.refl
 refine J7 (nx (sr 7 rfl (it rfl (C4e (f:=B0) (l:=(131073:Nat)) (c:=(131073:Nat)) Act.zero D3j D3i.ok (fun _=>rfl) rfl rfl rfl (by omega) (by first|omega|(simp<;>omega)) (by omega)) fun ⟨r19,hr20⟩=>?_)))
 have:=VOk.le hr20
 have:=VOk.cap hr20
 have:=VOk.cap hr20
 have:=VOk.le hr20
 refine A3h ((vo B0 26 many5r many5)++([])) [] (T:=26) (c:=B0) (r:=r19) (xs:=(List.replicate (131073:Nat) Act.zero)) hr20 (by first|rfl|simp only [List.cons_append,List.append_assoc,List.nil_append,List.append_nil]) ?_
 refine D6f (L':=((vo B0 26 many5r many5)++([]))) (by first|rfl|simp only [List.cons_append,List.append_assoc,List.nil_append,List.append_nil]) ?_
 have hQ:=D9 hR;clear hR;obtain ⟨y0,hy0,hR⟩:=hQ
 refine it rfl (C2 (L2:=((vo B0 26 many5r many5)++([]))) (A3i (List.replicate (131073:Nat) Act.zero) (va r19.q) r19.k (by first|omega|(simp<;>omega)|(dsimp only;omega)|decide) (by first|omega|(simp<;>omega)|(dsimp only;omega)|decide) (by first|assumption|decide|exact fun x hx=>Nat.le_trans (hrow x hx) (by decide)|exact fun x hx=>Nat.le_trans (of_decide_eq_true (List.all_eq_true.1 hbt x hx)) (by decide)|(intro x hx;simp only [List.nil_append,List.mem_append] at hx;rcases hx with hx|hx<;>first|exact Nat.le_trans (hrow x hx) (by decide)|exact Nat.le_trans (hpt x hx) (by decide))|(intro x hx;rw [List.mem_singleton.1 hx];omega)|exact fun x hx=>Nat.le_trans (hrow x (List.mem_of_mem_take hx)) (by decide)|exact fun x hx=>Nat.le_trans (hrow x (List.mem_of_mem_drop hx)) (by decide)|exact fun x hx=>Nat.le_trans (hrow x (List.mem_of_mem_drop (List.mem_of_mem_take hx))) (by decide)|omega) y0 hy0) rfl rfl rfl rfl rfl (A3.pick [0,6,7,8,9,10,11] rfl) (List.Perm.refl _) (fun ⟨r21,hk22⟩=>((vo cU8 5 r21 y0.1)++((vo B0 26 many5r many5)++([])))) (fun _=>by first|rfl|simp only [List.append_nil,List.cons_append,List.nil_append,List.append_assoc])) fun ⟨r21,hk22⟩=>?_
 have:=VOk.le hk22
 have:=VOk.cap hk22
 try have:=Z1 (List.replicate (131073:Nat) Act.zero) (fun x hx=>Nat.le_trans (hrow x (by first|exact hx|exact List.mem_of_mem_take hx|exact List.mem_of_mem_drop hx)) (by decide));try rw [hy0] at this
 refine A3h [] ((vo B0 26 many5r many5)++([])) (T:=5) (c:=cU8) (r:=r21) (xs:=y0.1) hk22 (by first|rfl|simp only [List.cons_append,List.append_assoc,List.nil_append,List.append_nil]) ?_
 refine ip' 5 0 [(11,iv y0.2)] ?_
 refine ie (sr 7 rfl (ip' 1 6 [(110,.slice (va many5r.q) many5.length many5r.k)] ?_))
 have:=VOk.cap hokmany5r
 have:=VOk.le hokmany5r
 refine A3h [] [] (T:=26) (c:=B0) (r:=many5r) (xs:=many5) hokmany5r (by first|rfl|simp only [List.cons_append,List.append_assoc,List.nil_append,List.append_nil]) ?_
 have hQ:=D9 hR;clear hR;obtain ⟨y1,hy1,hR⟩:=hQ
 refine it rfl (C2 (L2:=[]) (A3i many5 (va many5r.q) many5r.k (by first|omega|(simp<;>omega)|(dsimp only;omega)|decide) (by first|omega|(simp<;>omega)|(dsimp only;omega)|decide) (by first|assumption|decide|exact fun x hx=>Nat.le_trans (hrow x hx) (by decide)|exact fun x hx=>Nat.le_trans (of_decide_eq_true (List.all_eq_true.1 hbt x hx)) (by decide)|(intro x hx;simp only [List.nil_append,List.mem_append] at hx;rcases hx with hx|hx<;>first|exact Nat.le_trans (hrow x hx) (by decide)|exact Nat.le_trans (hpt x hx) (by decide))|(intro x hx;rw [List.mem_singleton.1 hx];omega)|exact fun x hx=>Nat.le_trans (hrow x (List.mem_of_mem_take hx)) (by decide)|exact fun x hx=>Nat.le_trans (hrow x (List.mem_of_mem_drop hx)) (by decide)|exact fun x hx=>Nat.le_trans (hrow x (List.mem_of_mem_drop (List.mem_of_mem_take hx))) (by decide)|omega) y1 hy1) rfl rfl rfl rfl rfl (A3.pick [0,8,9,10,11,12,13] rfl) (List.Perm.refl _) (fun ⟨r23,hk24⟩=>((vo cU8 5 r23 y1.1)++([]))) (fun _=>by first|rfl|simp only [List.append_nil,List.cons_append,List.nil_append,List.append_assoc])) fun ⟨r23,hk24⟩=>?_
 have:=VOk.le hk24
 have:=VOk.cap hk24
 try have:=Z1 many5 (fun x hx=>Nat.le_trans (hrow x (by first|exact hx|exact List.mem_of_mem_take hx|exact List.mem_of_mem_drop hx)) (by decide));try rw [hy1] at this
 refine A3h [] [] (T:=5) (c:=cU8) (r:=r23) (xs:=y1.1) hk24 (by first|rfl|simp only [List.cons_append,List.append_assoc,List.nil_append,List.append_nil]) ?_
 refine ip' 5 0 [(12,.slice (va r23.q) y1.1.length r23.k),(13,iv y1.2)] ?_
 refine ie (sr 9 rfl (zca (B8 2 0 0 _ rfl) fn0 ?_))
 refine zca (B8 20 0 0 _ rfl) fn0 ?_
 refine it rfl (B9 (c:=B0) (xs:=([(A0 2 0 0),(A0 20 0 0)]:List Act)) A1z rfl rfl rfl (by kernel_rfl)) fun b25=>?_
 have:([(A0 2 0 0),(A0 20 0 0)]:List Act).length=2:=rfl
 have hQ:=D9 hR;clear hR;obtain ⟨y2,hy2,hR⟩:=hQ
 refine it rfl (C2 (L2:=[]) (A3i ([(A0 2 0 0),(A0 20 0 0)]:List Act) (some ⟨b25,0,none⟩) 2 (by first|omega|(simp<;>omega)|(dsimp only;omega)|decide) (by first|omega|(simp<;>omega)|(dsimp only;omega)|decide) (by first|assumption|decide|exact fun x hx=>Nat.le_trans (hrow x hx) (by decide)|exact fun x hx=>Nat.le_trans (of_decide_eq_true (List.all_eq_true.1 hbt x hx)) (by decide)|(intro x hx;simp only [List.nil_append,List.mem_append] at hx;rcases hx with hx|hx<;>first|exact Nat.le_trans (hrow x hx) (by decide)|exact Nat.le_trans (hpt x hx) (by decide))|(intro x hx;rw [List.mem_singleton.1 hx];omega)|exact fun x hx=>Nat.le_trans (hrow x (List.mem_of_mem_take hx)) (by decide)|exact fun x hx=>Nat.le_trans (hrow x (List.mem_of_mem_drop hx)) (by decide)|exact fun x hx=>Nat.le_trans (hrow x (List.mem_of_mem_drop (List.mem_of_mem_take hx))) (by decide)|omega) y2 hy2) rfl rfl rfl rfl rfl (A3.pick [0,10,11,12,13,14,15] rfl) (List.Perm.refl _) (fun ⟨r26,hk27⟩=>((vo cU8 5 r26 y2.1)++([]))) (fun _=>by first|rfl|simp only [List.append_nil,List.cons_append,List.nil_append,List.append_assoc])) fun ⟨r26,hk27⟩=>?_
 have:=VOk.le hk27
 have:=VOk.cap hk27
 try have:=Z1 ([(A0 2 0 0),(A0 20 0 0)]:List Act) (fun x hx=>Nat.le_trans (hrow x (by first|exact hx|exact List.mem_of_mem_take hx|exact List.mem_of_mem_drop hx)) (by decide));try rw [hy2] at this
 refine A3h [] [] (T:=5) (c:=cU8) (r:=r26) (xs:=y2.1) hk27 (by first|rfl|simp only [List.cons_append,List.append_assoc,List.nil_append,List.append_nil]) ?_
 refine ip' 5 0 [(15,iv y2.2)] ?_
 refine ie (sr 7 rfl (zrl 1 6 [] [(122,ag (B0 Act.zero))] ?_))
 have hQ:=D9 hR;clear hR;obtain ⟨y3,hy3,hR⟩:=hQ
 refine it rfl (C2 (L2:=[]) (C7o Act.zero (by first|omega|(refine D9l ?_ ?_ ?_ ?_ ?_ ?_ _<;>(first|omega|(dsimp only;omega)|(dsimp only;simp only [List.length_take,List.length_nil];omega)|exact Nat.zero_le _))|(dsimp only;omega)|(dsimp only;simp only [List.length_take,List.length_nil];omega)) y3 hy3) rfl rfl rfl rfl rfl (A3.pick [11,12,13,14,15,16] rfl) (List.Perm.refl _) (fun ⟨r28,hk29⟩=>((vo cU8 5 r28 y3.1)++([]))) (fun _=>by first|rfl|simp only [List.append_nil,List.cons_append,List.nil_append,List.append_assoc])) fun ⟨r28,hk29⟩=>?_
 have:=VOk.le hk29
 have:=VOk.cap hk29
 refine A3h [] [] (T:=5) (c:=cU8) (r:=r28) (xs:=y3.1) hk29 (by first|rfl|simp only [List.cons_append,List.append_assoc,List.nil_append,List.append_nil]) ?_
 refine ip' 5 0 [(17,iv y3.2)] ?_
 refine ie (sr 43 rfl (ip' 1 42 [(126,bv true)] ?_))
 refine zca (C0c _ rfl) (A3.pick [12,13,14,15,16,17] rfl) ?_
 refine ip' 2 39 [(129,bv L6)] ?_
 refine zia 2 37 129 131 (B2 A3d ([(A0 2 0 0),(A0 3 0 0),(A0 4 0 0),(A0 5 0 0),(A0 6 0 0),(A0 7 0 0),(A0 8 0 0),(A0 9 0 0),(A0 10 0 0),(A0 11 0 0),(A0 12 0 0),(A0 13 0 0),(A0 15 0 0),(A0 14 0 0),(A0 14 1 0),(A0 16 0 0),(A0 17 0 0),(A0 18 2 0),(A0 18 3 0)]:List Act)) (fun g30=>?_) ?_
 ·refine ip' 2 0 [(131,bv (B2 A3d ([(A0 2 0 0),(A0 3 0 0),(A0 4 0 0),(A0 5 0 0),(A0 6 0 0),(A0 7 0 0),(A0 8 0 0),(A0 9 0 0),(A0 10 0 0),(A0 11 0 0),(A0 12 0 0),(A0 13 0 0),(A0 15 0 0),(A0 14 0 0),(A0 14 1 0),(A0 16 0 0),(A0 17 0 0),(A0 18 2 0),(A0 18 3 0)]:List Act)))] ?_
  exact zai 2 129 131 g30
 refine ip' 1 36 [(132,bv (L6&&(B2 A3d ([(A0 2 0 0),(A0 3 0 0),(A0 4 0 0),(A0 5 0 0),(A0 6 0 0),(A0 7 0 0),(A0 8 0 0),(A0 9 0 0),(A0 10 0 0),(A0 11 0 0),(A0 12 0 0),(A0 13 0 0),(A0 15 0 0),(A0 14 0 0),(A0 14 1 0),(A0 16 0 0),(A0 17 0 0),(A0 18 2 0),(A0 18 3 0)]:List Act))))] ?_
 refine zia 2 34 132 134 (B2 A3r ([(A0 20 0 1),(A0 20 1 2),(A0 20 3 3),(A0 21 0 1),(A0 21 1 4),(A0 33 0 1),(A0 33 1 5),(A0 22 1 0),(A0 23 9 0),(A0 24 1 0),(A0 25 1 0),(A0 28 1 0),(A0 29 1 0),(A0 30 1 0),(A0 31 1 0),(A0 32 1 0),(A0 34 6 0)]:List Act)) (fun g31=>?_) ?_
 ·have g31p:=g31;try simp at g31p
  refine ip' 2 0 [(134,bv (B2 A3r ([(A0 20 0 1),(A0 20 1 2),(A0 20 3 3),(A0 21 0 1),(A0 21 1 4),(A0 33 0 1),(A0 33 1 5),(A0 22 1 0),(A0 23 9 0),(A0 24 1 0),(A0 25 1 0),(A0 28 1 0),(A0 29 1 0),(A0 30 1 0),(A0 31 1 0),(A0 32 1 0),(A0 34 6 0)]:List Act)))] ?_
  exact zai 2 132 134 g31
 refine ip' 1 33 [(135,bv ((L6&&(B2 A3d ([(A0 2 0 0),(A0 3 0 0),(A0 4 0 0),(A0 5 0 0),(A0 6 0 0),(A0 7 0 0),(A0 8 0 0),(A0 9 0 0),(A0 10 0 0),(A0 11 0 0),(A0 12 0 0),(A0 13 0 0),(A0 15 0 0),(A0 14 0 0),(A0 14 1 0),(A0 16 0 0),(A0 17 0 0),(A0 18 2 0),(A0 18 3 0)]:List Act)))&&(B2 A3r ([(A0 20 0 1),(A0 20 1 2),(A0 20 3 3),(A0 21 0 1),(A0 21 1 4),(A0 33 0 1),(A0 33 1 5),(A0 22 1 0),(A0 23 9 0),(A0 24 1 0),(A0 25 1 0),(A0 28 1 0),(A0 29 1 0),(A0 30 1 0),(A0 31 1 0),(A0 32 1 0),(A0 34 6 0)]:List Act))))] ?_
 refine zia 2 31 135 137 (B2 A4o ([(A0 27 0 0),(A0 27 1 0),(A0 35 0 0),(A0 35 3 0),(A0 36 4 1),(A0 36 20 0),(A0 37 7 0),(A0 38 0 0),(A0 38 2 0),(A0 38 2 5),(A0 40 6 0),(A0 41 5 0),(A0 42 0 0),(A0 42 1 0),(A0 43 4 0),(A0 43 25 1)]:List Act)) (fun g32=>?_) ?_
 ·have g32p:=g32;try simp at g32p
  refine ip' 2 0 [(137,bv (B2 A4o ([(A0 27 0 0),(A0 27 1 0),(A0 35 0 0),(A0 35 3 0),(A0 36 4 1),(A0 36 20 0),(A0 37 7 0),(A0 38 0 0),(A0 38 2 0),(A0 38 2 5),(A0 40 6 0),(A0 41 5 0),(A0 42 0 0),(A0 42 1 0),(A0 43 4 0),(A0 43 25 1)]:List Act)))] ?_
  exact zai 2 135 137 g32
 refine ip' 1 30 [(138,bv (((L6&&(B2 A3d ([(A0 2 0 0),(A0 3 0 0),(A0 4 0 0),(A0 5 0 0),(A0 6 0 0),(A0 7 0 0),(A0 8 0 0),(A0 9 0 0),(A0 10 0 0),(A0 11 0 0),(A0 12 0 0),(A0 13 0 0),(A0 15 0 0),(A0 14 0 0),(A0 14 1 0),(A0 16 0 0),(A0 17 0 0),(A0 18 2 0),(A0 18 3 0)]:List Act)))&&(B2 A3r ([(A0 20 0 1),(A0 20 1 2),(A0 20 3 3),(A0 21 0 1),(A0 21 1 4),(A0 33 0 1),(A0 33 1 5),(A0 22 1 0),(A0 23 9 0),(A0 24 1 0),(A0 25 1 0),(A0 28 1 0),(A0 29 1 0),(A0 30 1 0),(A0 31 1 0),(A0 32 1 0),(A0 34 6 0)]:List Act)))&&(B2 A4o ([(A0 27 0 0),(A0 27 1 0),(A0 35 0 0),(A0 35 3 0),(A0 36 4 1),(A0 36 20 0),(A0 37 7 0),(A0 38 0 0),(A0 38 2 0),(A0 38 2 5),(A0 40 6 0),(A0 41 5 0),(A0 42 0 0),(A0 42 1 0),(A0 43 4 0),(A0 43 25 1)]:List Act))))] ?_
 refine zia 2 28 138 140 (B2 ((([27,91]:List UInt8)++(P6 ([48,59]:List UInt8) 15))++([48,109,27,91,48,109]:List UInt8)) pens) (fun g33=>?_) ?_
 ·have g33p:=g33;try simp at g33p
  refine ip' 2 0 [(140,bv (B2 ((([27,91]:List UInt8)++(P6 ([48,59]:List UInt8) 15))++([48,109,27,91,48,109]:List UInt8)) pens))] ?_
  exact zai 2 138 140 g33
 refine ip' 1 27 [(141,bv ((((L6&&(B2 A3d ([(A0 2 0 0),(A0 3 0 0),(A0 4 0 0),(A0 5 0 0),(A0 6 0 0),(A0 7 0 0),(A0 8 0 0),(A0 9 0 0),(A0 10 0 0),(A0 11 0 0),(A0 12 0 0),(A0 13 0 0),(A0 15 0 0),(A0 14 0 0),(A0 14 1 0),(A0 16 0 0),(A0 17 0 0),(A0 18 2 0),(A0 18 3 0)]:List Act)))&&(B2 A3r ([(A0 20 0 1),(A0 20 1 2),(A0 20 3 3),(A0 21 0 1),(A0 21 1 4),(A0 33 0 1),(A0 33 1 5),(A0 22 1 0),(A0 23 9 0),(A0 24 1 0),(A0 25 1 0),(A0 28 1 0),(A0 29 1 0),(A0 30 1 0),(A0 31 1 0),(A0 32 1 0),(A0 34 6 0)]:List Act)))&&(B2 A4o ([(A0 27 0 0),(A0 27 1 0),(A0 35 0 0),(A0 35 3 0),(A0 36 4 1),(A0 36 20 0),(A0 37 7 0),(A0 38 0 0),(A0 38 2 0),(A0 38 2 5),(A0 40 6 0),(A0 41 5 0),(A0 42 0 0),(A0 42 1 0),(A0 43 4 0),(A0 43 25 1)]:List Act)))&&(B2 ((([27,91]:List UInt8)++(P6 ([48,59]:List UInt8) 15))++([48,109,27,91,48,109]:List UInt8)) pens)))] ?_
 refine zia 2 25 141 143 (B2 A7g ([{Act.zero with kind:=45,n:=7,color:=(⟨2,1⟩:Col)},{Act.zero with kind:=46},(A0 1 20013 0)]:List Act)) (fun g34=>?_) ?_
 ·have g34p:=g34;try simp at g34p
  refine ip' 2 0 [(143,bv (B2 A7g ([{Act.zero with kind:=45,n:=7,color:=(⟨2,1⟩:Col)},{Act.zero with kind:=46},(A0 1 20013 0)]:List Act)))] ?_
  exact zai 2 141 143 g34
 refine ip' 1 24 [(144,bv (((((L6&&(B2 A3d ([(A0 2 0 0),(A0 3 0 0),(A0 4 0 0),(A0 5 0 0),(A0 6 0 0),(A0 7 0 0),(A0 8 0 0),(A0 9 0 0),(A0 10 0 0),(A0 11 0 0),(A0 12 0 0),(A0 13 0 0),(A0 15 0 0),(A0 14 0 0),(A0 14 1 0),(A0 16 0 0),(A0 17 0 0),(A0 18 2 0),(A0 18 3 0)]:List Act)))&&(B2 A3r ([(A0 20 0 1),(A0 20 1 2),(A0 20 3 3),(A0 21 0 1),(A0 21 1 4),(A0 33 0 1),(A0 33 1 5),(A0 22 1 0),(A0 23 9 0),(A0 24 1 0),(A0 25 1 0),(A0 28 1 0),(A0 29 1 0),(A0 30 1 0),(A0 31 1 0),(A0 32 1 0),(A0 34 6 0)]:List Act)))&&(B2 A4o ([(A0 27 0 0),(A0 27 1 0),(A0 35 0 0),(A0 35 3 0),(A0 36 4 1),(A0 36 20 0),(A0 37 7 0),(A0 38 0 0),(A0 38 2 0),(A0 38 2 5),(A0 40 6 0),(A0 41 5 0),(A0 42 0 0),(A0 42 1 0),(A0 43 4 0),(A0 43 25 1)]:List Act)))&&(B2 ((([27,91]:List UInt8)++(P6 ([48,59]:List UInt8) 15))++([48,109,27,91,48,109]:List UInt8)) pens))&&(B2 A7g ([{Act.zero with kind:=45,n:=7,color:=(⟨2,1⟩:Col)},{Act.zero with kind:=46},(A0 1 20013 0)]:List Act))))] ?_
 refine zia 3 21 144 147 (decide (y0.2=3)) (fun g35=>?_) ?_
 ·have g35p:=g35;try simp at g35p
  refine ip' 3 0 [(147,bv (decide (y0.2=3)))] ?_
  exact zai 2 144 147 g35
 refine ip' 1 20 [(148,bv ((((((L6&&(B2 A3d ([(A0 2 0 0),(A0 3 0 0),(A0 4 0 0),(A0 5 0 0),(A0 6 0 0),(A0 7 0 0),(A0 8 0 0),(A0 9 0 0),(A0 10 0 0),(A0 11 0 0),(A0 12 0 0),(A0 13 0 0),(A0 15 0 0),(A0 14 0 0),(A0 14 1 0),(A0 16 0 0),(A0 17 0 0),(A0 18 2 0),(A0 18 3 0)]:List Act)))&&(B2 A3r ([(A0 20 0 1),(A0 20 1 2),(A0 20 3 3),(A0 21 0 1),(A0 21 1 4),(A0 33 0 1),(A0 33 1 5),(A0 22 1 0),(A0 23 9 0),(A0 24 1 0),(A0 25 1 0),(A0 28 1 0),(A0 29 1 0),(A0 30 1 0),(A0 31 1 0),(A0 32 1 0),(A0 34 6 0)]:List Act)))&&(B2 A4o ([(A0 27 0 0),(A0 27 1 0),(A0 35 0 0),(A0 35 3 0),(A0 36 4 1),(A0 36 20 0),(A0 37 7 0),(A0 38 0 0),(A0 38 2 0),(A0 38 2 5),(A0 40 6 0),(A0 41 5 0),(A0 42 0 0),(A0 42 1 0),(A0 43 4 0),(A0 43 25 1)]:List Act)))&&(B2 ((([27,91]:List UInt8)++(P6 ([48,59]:List UInt8) 15))++([48,109,27,91,48,109]:List UInt8)) pens))&&(B2 A7g ([{Act.zero with kind:=45,n:=7,color:=(⟨2,1⟩:Col)},{Act.zero with kind:=46},(A0 1 20013 0)]:List Act)))&&(decide (y0.2=3))))] ?_
 refine zia 3 17 148 151 (decide (y1.2=0)) (fun g36=>?_) ?_
 ·have g36p:=g36;try simp at g36p
  refine ip' 3 0 [(151,bv (decide (y1.2=0)))] ?_
  exact zai 2 148 151 g36
 refine ip' 1 16 [(152,bv (((((((L6&&(B2 A3d ([(A0 2 0 0),(A0 3 0 0),(A0 4 0 0),(A0 5 0 0),(A0 6 0 0),(A0 7 0 0),(A0 8 0 0),(A0 9 0 0),(A0 10 0 0),(A0 11 0 0),(A0 12 0 0),(A0 13 0 0),(A0 15 0 0),(A0 14 0 0),(A0 14 1 0),(A0 16 0 0),(A0 17 0 0),(A0 18 2 0),(A0 18 3 0)]:List Act)))&&(B2 A3r ([(A0 20 0 1),(A0 20 1 2),(A0 20 3 3),(A0 21 0 1),(A0 21 1 4),(A0 33 0 1),(A0 33 1 5),(A0 22 1 0),(A0 23 9 0),(A0 24 1 0),(A0 25 1 0),(A0 28 1 0),(A0 29 1 0),(A0 30 1 0),(A0 31 1 0),(A0 32 1 0),(A0 34 6 0)]:List Act)))&&(B2 A4o ([(A0 27 0 0),(A0 27 1 0),(A0 35 0 0),(A0 35 3 0),(A0 36 4 1),(A0 36 20 0),(A0 37 7 0),(A0 38 0 0),(A0 38 2 0),(A0 38 2 5),(A0 40 6 0),(A0 41 5 0),(A0 42 0 0),(A0 42 1 0),(A0 43 4 0),(A0 43 25 1)]:List Act)))&&(B2 ((([27,91]:List UInt8)++(P6 ([48,59]:List UInt8) 15))++([48,109,27,91,48,109]:List UInt8)) pens))&&(B2 A7g ([{Act.zero with kind:=45,n:=7,color:=(⟨2,1⟩:Col)},{Act.zero with kind:=46},(A0 1 20013 0)]:List Act)))&&(decide (y0.2=3)))&&(decide (y1.2=0))))] ?_
 refine zia 4 12 152 156 (decide ((y1.1.length:Int)=5000)) (fun g37=>?_) ?_
 ·have g37p:=g37;try simp at g37p
  refine ip' 4 0 [(156,bv (decide ((y1.1.length:Int)=5000)))] ?_
  exact zai 2 152 156 g37
 refine ip' 1 11 [(157,bv ((((((((L6&&(B2 A3d ([(A0 2 0 0),(A0 3 0 0),(A0 4 0 0),(A0 5 0 0),(A0 6 0 0),(A0 7 0 0),(A0 8 0 0),(A0 9 0 0),(A0 10 0 0),(A0 11 0 0),(A0 12 0 0),(A0 13 0 0),(A0 15 0 0),(A0 14 0 0),(A0 14 1 0),(A0 16 0 0),(A0 17 0 0),(A0 18 2 0),(A0 18 3 0)]:List Act)))&&(B2 A3r ([(A0 20 0 1),(A0 20 1 2),(A0 20 3 3),(A0 21 0 1),(A0 21 1 4),(A0 33 0 1),(A0 33 1 5),(A0 22 1 0),(A0 23 9 0),(A0 24 1 0),(A0 25 1 0),(A0 28 1 0),(A0 29 1 0),(A0 30 1 0),(A0 31 1 0),(A0 32 1 0),(A0 34 6 0)]:List Act)))&&(B2 A4o ([(A0 27 0 0),(A0 27 1 0),(A0 35 0 0),(A0 35 3 0),(A0 36 4 1),(A0 36 20 0),(A0 37 7 0),(A0 38 0 0),(A0 38 2 0),(A0 38 2 5),(A0 40 6 0),(A0 41 5 0),(A0 42 0 0),(A0 42 1 0),(A0 43 4 0),(A0 43 25 1)]:List Act)))&&(B2 ((([27,91]:List UInt8)++(P6 ([48,59]:List UInt8) 15))++([48,109,27,91,48,109]:List UInt8)) pens))&&(B2 A7g ([{Act.zero with kind:=45,n:=7,color:=(⟨2,1⟩:Col)},{Act.zero with kind:=46},(A0 1 20013 0)]:List Act)))&&(decide (y0.2=3)))&&(decide (y1.2=0)))&&(decide ((y1.1.length:Int)=5000))))] ?_
 refine zia 3 8 157 160 (decide (y2.2=200)) (fun g38=>?_) ?_
 ·have g38p:=g38;try simp at g38p
  refine ip' 3 0 [(160,bv (decide (y2.2=200)))] ?_
  exact zai 2 157 160 g38
 refine ip' 1 7 [(161,bv (((((((((L6&&(B2 A3d ([(A0 2 0 0),(A0 3 0 0),(A0 4 0 0),(A0 5 0 0),(A0 6 0 0),(A0 7 0 0),(A0 8 0 0),(A0 9 0 0),(A0 10 0 0),(A0 11 0 0),(A0 12 0 0),(A0 13 0 0),(A0 15 0 0),(A0 14 0 0),(A0 14 1 0),(A0 16 0 0),(A0 17 0 0),(A0 18 2 0),(A0 18 3 0)]:List Act)))&&(B2 A3r ([(A0 20 0 1),(A0 20 1 2),(A0 20 3 3),(A0 21 0 1),(A0 21 1 4),(A0 33 0 1),(A0 33 1 5),(A0 22 1 0),(A0 23 9 0),(A0 24 1 0),(A0 25 1 0),(A0 28 1 0),(A0 29 1 0),(A0 30 1 0),(A0 31 1 0),(A0 32 1 0),(A0 34 6 0)]:List Act)))&&(B2 A4o ([(A0 27 0 0),(A0 27 1 0),(A0 35 0 0),(A0 35 3 0),(A0 36 4 1),(A0 36 20 0),(A0 37 7 0),(A0 38 0 0),(A0 38 2 0),(A0 38 2 5),(A0 40 6 0),(A0 41 5 0),(A0 42 0 0),(A0 42 1 0),(A0 43 4 0),(A0 43 25 1)]:List Act)))&&(B2 ((([27,91]:List UInt8)++(P6 ([48,59]:List UInt8) 15))++([48,109,27,91,48,109]:List UInt8)) pens))&&(B2 A7g ([{Act.zero with kind:=45,n:=7,color:=(⟨2,1⟩:Col)},{Act.zero with kind:=46},(A0 1 20013 0)]:List Act)))&&(decide (y0.2=3)))&&(decide (y1.2=0)))&&(decide ((y1.1.length:Int)=5000)))&&(decide (y2.2=200))))] ?_
 refine zia 3 4 161 164 (decide (y3.2=200)) (fun g39=>?_) ?_
 ·have g39p:=g39;try simp at g39p
  refine ip' 3 0 [(164,bv (decide (y3.2=200)))] ?_
  exact zai 2 161 164 g39
 refine ip' 1 3 [(165,bv ((((((((((L6&&(B2 A3d ([(A0 2 0 0),(A0 3 0 0),(A0 4 0 0),(A0 5 0 0),(A0 6 0 0),(A0 7 0 0),(A0 8 0 0),(A0 9 0 0),(A0 10 0 0),(A0 11 0 0),(A0 12 0 0),(A0 13 0 0),(A0 15 0 0),(A0 14 0 0),(A0 14 1 0),(A0 16 0 0),(A0 17 0 0),(A0 18 2 0),(A0 18 3 0)]:List Act)))&&(B2 A3r ([(A0 20 0 1),(A0 20 1 2),(A0 20 3 3),(A0 21 0 1),(A0 21 1 4),(A0 33 0 1),(A0 33 1 5),(A0 22 1 0),(A0 23 9 0),(A0 24 1 0),(A0 25 1 0),(A0 28 1 0),(A0 29 1 0),(A0 30 1 0),(A0 31 1 0),(A0 32 1 0),(A0 34 6 0)]:List Act)))&&(B2 A4o ([(A0 27 0 0),(A0 27 1 0),(A0 35 0 0),(A0 35 3 0),(A0 36 4 1),(A0 36 20 0),(A0 37 7 0),(A0 38 0 0),(A0 38 2 0),(A0 38 2 5),(A0 40 6 0),(A0 41 5 0),(A0 42 0 0),(A0 42 1 0),(A0 43 4 0),(A0 43 25 1)]:List Act)))&&(B2 ((([27,91]:List UInt8)++(P6 ([48,59]:List UInt8) 15))++([48,109,27,91,48,109]:List UInt8)) pens))&&(B2 A7g ([{Act.zero with kind:=45,n:=7,color:=(⟨2,1⟩:Col)},{Act.zero with kind:=46},(A0 1 20013 0)]:List Act)))&&(decide (y0.2=3)))&&(decide (y1.2=0)))&&(decide ((y1.1.length:Int)=5000)))&&(decide (y2.2=200)))&&(decide (y3.2=200))))] ?_
 refine zia 2 1 165 167 (A4b ([]:List UInt8)) (fun g40=>?_) ?_
 ·have g40p:=g40;try simp at g40p
  refine zca (C5n ([]:List UInt8) (by first|assumption|decide|omega) _ rfl) (A3.pick [16,17,14,15] rfl) ?_
  refine ip' 1 0 [(167,bv (A4b ([]:List UInt8)))] ?_
  exact zai 3 165 167 g40
 refine ip' 1 0 [(0,bv (((((((((((L6&&(B2 A3d ([(A0 2 0 0),(A0 3 0 0),(A0 4 0 0),(A0 5 0 0),(A0 6 0 0),(A0 7 0 0),(A0 8 0 0),(A0 9 0 0),(A0 10 0 0),(A0 11 0 0),(A0 12 0 0),(A0 13 0 0),(A0 15 0 0),(A0 14 0 0),(A0 14 1 0),(A0 16 0 0),(A0 17 0 0),(A0 18 2 0),(A0 18 3 0)]:List Act)))&&(B2 A3r ([(A0 20 0 1),(A0 20 1 2),(A0 20 3 3),(A0 21 0 1),(A0 21 1 4),(A0 33 0 1),(A0 33 1 5),(A0 22 1 0),(A0 23 9 0),(A0 24 1 0),(A0 25 1 0),(A0 28 1 0),(A0 29 1 0),(A0 30 1 0),(A0 31 1 0),(A0 32 1 0),(A0 34 6 0)]:List Act)))&&(B2 A4o ([(A0 27 0 0),(A0 27 1 0),(A0 35 0 0),(A0 35 3 0),(A0 36 4 1),(A0 36 20 0),(A0 37 7 0),(A0 38 0 0),(A0 38 2 0),(A0 38 2 5),(A0 40 6 0),(A0 41 5 0),(A0 42 0 0),(A0 42 1 0),(A0 43 4 0),(A0 43 25 1)]:List Act)))&&(B2 ((([27,91]:List UInt8)++(P6 ([48,59]:List UInt8) 15))++([48,109,27,91,48,109]:List UInt8)) pens))&&(B2 A7g ([{Act.zero with kind:=45,n:=7,color:=(⟨2,1⟩:Col)},{Act.zero with kind:=46},(A0 1 20013 0)]:List Act)))&&(decide (y0.2=3)))&&(decide (y1.2=0)))&&(decide ((y1.1.length:Int)=5000)))&&(decide (y2.2=200)))&&(decide (y3.2=200)))&&(A4b ([]:List UInt8))))] ?_
 subst hR
 refine ie (B4 ?_)
 exact H3 hr hD
end Go.Proofs.YtanighkpfmgnbaaGreatDoor
