import Derived.Test.YtanighkpfmgnbaaGreatDoorProg
import Derived.Test.YtanighkpfmgnbaaGreatDoorMA2
import Derived.Test.YtanighkpfmgnbaaGreatDoorMB1
import Derived.Test.YtanighkpfmgnbaaGreatDoorMA3
import Derived.Test.YtanighkpfmgnbaaGreatDoorMB2
import Derived.Test.YtanighkpfmgnbaaGreatDoorMB3
import Derived.Test.YtanighkpfmgnbaaGreatDoorMP1
set_option linter.unusedVariables false
set_option linter.unusedSimpArgs false
set_option linter.unnecessarySimpa false
set_option maxRecDepth 100000
namespace Go.Proofs.YtanighkpfmgnbaaGreatDoor
open Go Go.Fen
theorem E5v:Ty Tryz.prog 65 1 false:=⟨by kernel_rfl⟩
theorem D8c:Ty Tryz.prog 117 1 false:=⟨by kernel_rfl⟩
theorem E5o:Ty Tryz.prog 126 15 true:=⟨by kernel_rfl⟩
theorem B4a:Ty Tryz.prog 176 10 true:=⟨by kernel_rfl⟩
theorem D7b:Ty Tryz.prog 179 1 true:=⟨by kernel_rfl⟩
theorem E0e:Zero Tryz.prog 126 (C3 Prn.zero):=⟨by kernel_rfl⟩
def O5 (c1:Int) (c2:List Cel) (ag_paint_runs_1_l3:Int→List Prn):Nat→Prn→List Prn
 | 0,_=>[]
 | fu3+1,r=>(bif ((decide (r.til<c1))&&(decide ((c2.getD ((r.til).toNat) Cel.zero)=r.sign))) then O5 c1 c2 ag_paint_runs_1_l3 fu3 ({r with many:=(IntKind.i64.wrap (r.many+(1:Int))),til:=(IntKind.i64.wrap (r.til+(IntKind.i64.wrap ((1:Int)+r.sign.wide))))}) else (r::ag_paint_runs_1_l3 r.til))
def I4 (c1:Int) (c2:List Cel):Nat→Int→List Prn
 | 0,_=>[]
 | fu1+1,t1=>(bif (decide (t1<c1)) then O5 c1 c2 (I4 c1 c2 fu1) ((c1 - ({Prn.zero with sign:=(c2.getD ((t1).toNat) Cel.zero),at_:=t1,til:=t1}).til).toNat+1) ({Prn.zero with sign:=(c2.getD ((t1).toNat) Cel.zero),at_:=t1,til:=t1}) else [])
def R7 (c0:Int) (c1:Int) (c2:List Cel):List Prn :=
 I4 c1 c2 ((c1 - c0).toNat+1) c0
theorem B0f (c1:Int) (c2:List Cel) (ag:Int→List Prn) (hw:∀ c ∈ c2,0≤c.wide∧c.wide≤2) (hc:c1≤c2.length) (h8:c2.length≤80) (hag:∀ t,0≤t→((ag t).length:Int)≤max 0 (c1 - t)∧∀ x ∈ ag t,0≤x.many∧x.many≤100):∀ (fu:Nat) (r:Prn),0≤r.til→r.til≤90→0≤r.many→r.many≤r.til→((O5 c1 c2 ag fu r).length:Int)≤1+max 0 (c1 - r.til)∧∀ x ∈ O5 c1 c2 ag fu r,0≤x.many∧x.many≤100
 | 0,r,_,_,_,_=>by
  rw [O5]
  exact ⟨by rw [List.length_nil];omega,fun x hx=>by cases hx⟩
 | fu+1,r,h0,h9,hm,hmt=>by
  rw [O5]
  by_cases h:r.til<c1∧c2.getD r.til.toNat Cel.zero=r.sign
  ·rw [decide_eq_true h.1,decide_eq_true h.2,Bool.and_self,cond_true]
   have hlt:r.til.toNat<c2.length:=by omega
   have hs:=h.2
   rw [gdE hlt] at hs
   have w:=hw _ (List.getElem_mem hlt)
   rw [hs] at w
   rw [wr6 (x:=1+r.sign.wide) (by omega),wr6 (x:=r.many+1) (by omega),wr6 (x:=r.til+(1+r.sign.wide)) (by omega)]
   have ih:=B0f c1 c2 ag hw hc h8 hag fu {r with many:=r.many+1,til:=r.til+(1+r.sign.wide)} (by show 0≤r.til+(1+r.sign.wide);omega) (by show r.til+(1+r.sign.wide)≤90;omega) (by show 0≤r.many+1;omega) (by show r.many+1≤r.til+(1+r.sign.wide);omega)
   refine ⟨?_,ih.2⟩
   have:=ih.1
   simp only at this
   omega
  ·rw [show (decide (r.til<c1)&&decide (c2.getD r.til.toNat Cel.zero=r.sign))=false by simp only [Bool.and_eq_false_iff,decide_eq_false_iff_not];exact Decidable.not_and_iff_or_not.1 h,cond_false]
   obtain ⟨g1,g2⟩:=hag r.til h0
   refine ⟨by rw [List.length_cons];omega,fun x hx=>?_⟩
   rcases List.mem_cons.1 hx with rfl | hx
   ·omega
   ·exact g2 x hx
theorem A5g (c1:Int) (c2:List Cel) (hw:∀ c ∈ c2,0≤c.wide∧c.wide≤2) (hc:c1≤c2.length) (h8:c2.length≤80):∀ (fu:Nat) (t:Int),0≤t→((I4 c1 c2 fu t).length:Int)≤max 0 (c1 - t)∧∀ x ∈ I4 c1 c2 fu t,0≤x.many∧x.many≤100
 | 0,t,_=>by
  rw [I4]
  exact ⟨by rw [List.length_nil];omega,fun x hx=>by cases hx⟩
 | fu+1,t,h0=>by
  rw [I4]
  by_cases h:t<c1
  ·rw [decide_eq_true h,cond_true,O5]
   have hlt:t.toNat<c2.length:=by omega
   have w:=hw _ (List.getElem_mem hlt)
   have hg:c2.getD t.toNat Cel.zero=c2[t.toNat]:=gdE hlt
   rw [← hg] at w
   simp only [decide_eq_true h,decide_true,Bool.and_self,cond_true]
   rw [wr6 (x:=1+(c2.getD t.toNat Cel.zero).wide) (by omega),wr6 (x:=Prn.zero.many+1) (by show -1000000≤(0:Int)+1∧(0:Int)+1≤1000000;omega),wr6 (x:=t+(1+(c2.getD t.toNat Cel.zero).wide)) (by omega)]
   have ih:=B0f c1 c2 _ hw hc h8 (fun t ht=>A5g c1 c2 hw hc h8 fu t ht) ((c1 - t).toNat) {Prn.zero with sign:=c2.getD t.toNat Cel.zero,many:=Prn.zero.many+1,at_:=t,til:=t+(1+(c2.getD t.toNat Cel.zero).wide)} (by show 0≤t+(1+(c2.getD t.toNat Cel.zero).wide);omega) (by show t+(1+(c2.getD t.toNat Cel.zero).wide)≤90;omega) (by show (0:Int)≤0+1;omega) (by show (0:Int)+1≤t+(1+(c2.getD t.toNat Cel.zero).wide);omega)
   refine ⟨?_,ih.2⟩
   have:=ih.1
   simp only at this
   omega
  ·rw [decide_eq_false h,cond_false]
   exact ⟨by rw [List.length_nil];omega,fun x hx=>by cases hx⟩
theorem A8h {c0 c1:Int} {c2:List Cel} (h:(∀ c ∈ c2,0≤c.wide∧c.wide≤2)∧c2.length≤80∧0≤c0∧c1≤c2.length):(R7 c0 c1 c2).length≤80∧∀ x ∈ R7 c0 c1 c2,0≤x.many∧x.many≤100:=by
 have:=A5g c1 c2 h.1 h.2.2.2 h.2.1 ((c1 - c0).toNat+1) c0 h.2.2.1
 unfold R7
 exact ⟨by have:=this.1;omega,this.2⟩
theorem C2v (c0:Int) (c1:Int) (c2:List Cel) (c0b:Nat) (c1p:Addr) (c2p:Addr) (c2q:Option Addr) (c2k:Nat) (hlc2:c2.length≤9223372036854775807) (hcc2:c2.length≤c2k) (hv:(∀ c ∈ c2,0≤c.wide∧c.wide≤2)∧c2.length≤80∧0≤c0∧c1≤c2.length) (R:List Prn) (hR:R7 c0 c1 c2=R):C3t Tryz.prog 111 [pt c0b 0,pa c1p,pa c2p] [bx c0b [iv c0] 3] [at_ c1p [iv c1],sl L9 c2q c2,at_ c2p [.slice c2q c2.length c2k]] (fun x=>ag (C3 x)) R:=by
 refine D1t [bx c0b [iv c0] 3] (n:=48) Tryz.func111 rfl (by kernel_rfl) rfl rfl (fun l=>[(0,.func (.yield l) #[] #[]),(1,pt c0b 0),(2,pa c1p),(3,pa c2p)]) (fun l=>⟨rfl,rfl,rfl,rfl,trivial⟩) fun X l I Ix L Φ hX hr hD hI0 hY=>?_
 replace hR:=(R7.eq_1 ..).symm.trans hR
 refine B4 ?_
 refine E3i (fun (fu:Nat) (t1:Int) (R_:List Prn) (Lt:Fen.Own) (Ft:List Pers)=>((c1 - t1).toNat<fu∧I4 c1 c2 fu t1=R_∧I R_ Lt Ft∧0≤t1,[(0,.func (.yield l) #[] #[]),(1,pt c0b 0),(2,pa c1p),(3,pa c2p)],(bx c0b [iv t1] 3::Lt++([])),(at_ c1p [iv c1]::sl L9 c2q c2::at_ c2p [.slice c2q c2.length c2k]::Ft),fu)) ((c1 - c0).toNat+1) c0 R L Φ ⟨(Nat.lt_succ_self _),hR,hI0,(by omega)⟩ (mc [[bx c0b [iv c0] 3],L] [true,true] rfl (by first|rfl|(simp only [List.length_set]<;>rfl))) (A2.con1 (B0 0 rfl) (A2.con1 (B0 1 rfl) (A2.con1 (B0 2 rfl) (A2.dropT 3 rfl)))) ?_
 rintro fu t1 R_ Lt Ft ⟨hm1,hR,hILt,ht⟩
 obtain ⟨fu1,rfl⟩:∃ m,fu=m+1:=⟨fu - 1,by omega⟩
 replace hR:=(I4.eq_2 ..).symm.trans hR
 refine A8 (sr 3 rfl (zrl 1 2 [0] [(6,iv t1)] ?_))
 refine ix rfl (F3 (v:=iv c1) (us:=[iv c1]) ty3 rfl rfl (B0 0 rfl) rfl) (ip' 1 0 [(8,bv (decide (t1<c1)))] (ie ?_))
 refine zjd rfl hR ?_ ?_<;>clear hR<;>intro hR h2 h2p
 ·refine B1 (nx (B4 ?_))
  refine sh 9 [(9,[bx c0b [iv t1] 3]),(9,Lt)] (at_ c1p [iv c1]::sl L9 c2q c2::at_ c2p [.slice c2q c2.length c2k]::Ft) (bx c0b [iv t1] 3::Lt++([])) (zml 9 0) (by kernel_rfl) rfl (by kernel_rfl) (by kernel_rfl) (by kernel_rfl) (mc [[bx c0b [iv t1] 3],Lt] [true,true] rfl (by first|rfl|(simp only [List.length_set]<;>rfl))) A2.refl ?_
  refine zhk 0 (zml 9 1) rfl (F3 (v:=.slice c2q c2.length c2k) (us:=[.slice c2q c2.length c2k]) E5v rfl rfl (B0 2 rfl) rfl) (zhl 1 (bx c0b [iv t1] 3::Lt++([])) (zml 9 3) rfl (B2 (v:=iv t1) ty3 rfl rfl 0 rfl rfl) ?_)
  refine D3x 1 rfl (by omega) fun a3 hq4=>?_
  refine zhk 2 (zml 9 7) rfl (M2 B7r rfl rfl hq4 rfl ((t1).toNat) (by omega) (by omega)) (zhk 3 (zml 9 15) rfl (N8 (us:=L9 (c2.getD ((t1).toNat) Cel.zero)) D6b rfl rfl (O2 (c:=L9) (sz:=12) hq4 (fun _=>rfl) 1 rfl (gd Cel.zero (by omega))) rfl) (zhl 4 (bx c0b [iv t1] 3::Lt++([])) (zml 9 31) rfl (B2 (v:=iv t1) ty3 rfl rfl 0 rfl rfl) ?_))
  refine zhl 5 (bx c0b [iv t1] 3::Lt++([])) (zml 9 63) rfl (B2 (v:=iv t1) ty3 rfl rfl 0 rfl rfl) ?_
  refine zhk 6 (zml 9 127) rfl (A1l (cs:=C3 ({Prn.zero with sign:=(c2.getD ((t1).toNat) Cel.zero),at_:=t1,til:=t1})) rfl rfl (by kernel_rfl)) ?_
  refine zho 7 (bx c0b [iv t1] 3::Lt++([])) (zml 9 255) rfl (X0 (cs:=C3 Prn.zero) E0e rfl) (fun b5=>(mc [[bx b5 (C3 Prn.zero) 126],[bx c0b [iv t1] 3],Lt] [false,true,true] rfl (by first|rfl|(simp only [List.length_set]<;>rfl)))) (fun b5=>A2.refl) fun b5=>?_
  refine zho 8 (bx c0b [iv t1] 3::Lt++([])) (zml 9 511) rfl (N4 (us:=C3 ({Prn.zero with sign:=(c2.getD ((t1).toNat) Cel.zero),at_:=t1,til:=t1})) (cs':=C3 ({Prn.zero with sign:=(c2.getD ((t1).toNat) Cel.zero),at_:=t1,til:=t1})) E5o rfl rfl rfl 0 rfl rfl rfl rfl rfl rfl) (fun _=>(mc [[bx b5 (C3 ({Prn.zero with sign:=(c2.getD ((t1).toNat) Cel.zero),at_:=t1,til:=t1})) 126],[bx c0b [iv t1] 3],Lt] [false,true,true] rfl (by first|rfl|(simp only [List.length_set]<;>rfl)))) (fun _=>A2.refl) fun _=>?_
  refine A4z (by kernel_rfl) ?_
  refine A8 (B4 ?_)
  refine E3i (fun (fu2:Nat) (r:Prn) (R_1:List Prn) (Lt1:Fen.Own) (Ft1:List Pers)=>((c1 - r.til).toNat<fu2∧O5 c1 c2 (I4 c1 c2 fu1) fu2 r=R_1∧I R_1 Lt1 Ft1∧(0≤r.til∧r.til≤90∧0≤r.many∧r.many≤r.til)∧((r.til=t1→c2.getD t1.toNat Cel.zero=r.sign)∧t1≤r.til),[(0,.func (.yield l) #[] #[]),(1,pt c0b 0),(2,pa c1p),(3,pa c2p),(5,pt b5 0)],(bx b5 (C3 r) 126::bx c0b [iv t1] 3::Lt1++([])),(at_ c1p [iv c1]::sl L9 c2q c2::at_ c2p [.slice c2q c2.length c2k]::Ft1),fu2)) ((c1 - ({Prn.zero with sign:=(c2.getD ((t1).toNat) Cel.zero),at_:=t1,til:=t1}).til).toNat+1) ({Prn.zero with sign:=(c2.getD ((t1).toNat) Cel.zero),at_:=t1,til:=t1}) R_ Lt Ft ⟨(Nat.lt_succ_self _),hR,hILt,(by show 0≤t1∧t1≤90∧(0:Int)≤0∧(0:Int)≤t1;omega),(by exact ⟨fun _=>rfl,Int.le_refl _⟩)⟩ (mc [[bx b5 (C3 ({Prn.zero with sign:=(c2.getD ((t1).toNat) Cel.zero),at_:=t1,til:=t1})) 126],[bx c0b [iv t1] 3],Lt] [true,true,true] rfl (by first|rfl|(simp only [List.length_set]<;>rfl))) (A2.con1 (B0 0 rfl) (A2.con1 (B0 1 rfl) (A2.con1 (B0 2 rfl) (A2.dropT 3 rfl)))) ?_
  rintro fu2 r R_1 Lt1 Ft1 ⟨hm6,hR,hILt1,hr0,hrs⟩
  obtain ⟨fu3,rfl⟩:∃ m,fu2=m+1:=⟨fu2 - 1,by omega⟩
  replace hR:=(O5.eq_2 ..).symm.trans hR
  refine A8 (sd 14 rfl (by kernel_rfl) rfl ?_)
  refine zdg 2 12 [0] [(17,iv r.til)] ?_
  refine dd rfl (F3 (v:=iv c1) (us:=[iv c1]) ty3 rfl rfl (B0 0 rfl) rfl) (dp' 2 9 [(20,bv (decide (r.til<c1)))] ?_)
  refine zdd 9 0 20 29 (decide ((c2.getD ((r.til).toNat) Cel.zero)=r.sign)) (fun g7 g7p=>?_) ?_
  ·refine dd rfl (F3 (v:=.slice c2q c2.length c2k) (us:=[.slice c2q c2.length c2k]) E5v rfl rfl (B0 2 rfl) rfl) ?_
   refine zdg 2 6 [0] [(23,iv r.til)] ?_
   refine dd rfl (M2 B7r rfl rfl hq4 rfl ((r.til).toNat) (by omega) (by omega)) (dd rfl (N8 (us:=L9 (c2.getD ((r.til).toNat) Cel.zero)) D6b rfl rfl (O2 (c:=L9) (sz:=12) hq4 (fun _=>rfl) 1 rfl (gd Cel.zero (by omega))) rfl) ?_)
   refine zdg 2 2 [0] [(27,ag (L9 r.sign))] ?_
   refine dd rfl (B2s (a:=(c2.getD ((r.til).toNat) Cel.zero)) (b:=r.sign) D9n rfl rfl rfl) (dp' 1 0 [(29,bv (decide ((c2.getD ((r.til).toNat) Cel.zero)=r.sign)))] ?_)
   exact zad 8 20 29 g7
  refine de ?_
  refine zja rfl hR ?_ ?_<;>clear hR<;>intro hR h8 h8p
  ·have hwd:=D7e hv h8p hr0.1
   have hw1:IntKind.i64.wrap (r.til+IntKind.i64.wrap (1+r.sign.wide))=r.til+(1+r.sign.wide):=by rw [wr6 (x:=1+r.sign.wide) (by omega),wr6 (by omega)]
   have hw2:IntKind.i64.wrap (r.many+1)=r.many+1:=wr6 (by omega)
   refine B1 (nx (B4 (sr 5 rfl (zrl 2 3 [0] [(31,iv r.many)] (ix rfl (I5.pure rfl) (zrg 2 0 [0] [] (bx b5 (C3 ({r with many:=(IntKind.i64.wrap (r.many+(1:Int)))})) 126::bx c0b [iv t1] 3::Lt1++([])) (ie (A5 9 rfl (zrl 5 4 [0,0] [(35,iv r.til),(38,iv r.sign.wide)] (ix rfl (I5.pure rfl) (ix rfl (I5.pure rfl) (zrg 2 0 [0] [] (bx b5 (C3 ({r with many:=(IntKind.i64.wrap (r.many+(1:Int))),til:=(IntKind.i64.wrap (r.til+(IntKind.i64.wrap ((1:Int)+r.sign.wide))))})) 126::bx c0b [iv t1] 3::Lt1++([])) ?_))))))))))))
   refine A7 ?_
   exact E3k (z1:=(fu3+1)) (z2:=r) (z3:=R_1) (z4:=Lt1) (z5:=Ft1) fu3 ({r with many:=(IntKind.i64.wrap (r.many+(1:Int))),til:=(IntKind.i64.wrap (r.til+(IntKind.i64.wrap ((1:Int)+r.sign.wide))))}) R_1 Lt1 Ft1 ⟨(by dsimp only;omega),hR,hILt1,(by dsimp only;omega),(by exact ⟨fun e=>by dsimp only at e;omega,by dsimp only;omega⟩)⟩ (Nat.lt_succ_self _) (mc [[bx b5 (C3 ({r with many:=(IntKind.i64.wrap (r.many+(1:Int))),til:=(IntKind.i64.wrap (r.til+(IntKind.i64.wrap ((1:Int)+r.sign.wide))))})) 126],[bx c0b [iv t1] 3],Lt1] [true,true,true] rfl (by first|rfl|(simp only [List.length_set]<;>rfl))) (A2.con1 (B0 0 rfl) (A2.con1 (B0 1 rfl) (A2.con1 (B0 2 rfl) (A2.dropT 3 rfl))))
  have hgt:t1<r.til:=Int.lt_iff_le_and_ne.2 ⟨hrs.2,fun e=>h8p ⟨by omega,by rw [← e];exact hrs.1 e.symm⟩⟩
  refine H7 (nx (A8 (sr 4 rfl (zrl 2 2 [0] [(42,.func (.yield l) #[] #[]),(43,ag (C3 r))] ?_))))
  have hq14:=D3d hR;clear hR;obtain ⟨R9,hR,hq14⟩:=hq14;rw [hq14] at hILt1
  refine it rfl (C0s (L2:=[bx b5 (C3 r) 126,bx c0b [iv t1] 3]) (hY _ R9 _ _ hILt1) rfl rfl rfl rfl (A2.dropT 3 rfl) (F8 [[bx b5 (C3 r) 126],[bx c0b [iv t1] 3],Lt1] [2,0,1] 3 rfl (by decide) rfl [Lt1,[bx b5 (C3 r) 126],[bx c0b [iv t1] 3]] rfl (by simp only [List.flatten_cons,List.flatten_nil,List.append_nil,List.cons_append,List.nil_append,List.append_assoc]))) fun ⟨⟨y10,L11,Φ12⟩,hy13⟩=>?_
  refine C2n (A2.yield [at_ c1p [iv c1],sl L9 c2q c2,at_ c2p [.slice c2q c2.length c2k]]) ?_
  refine E1o (L':=(bx b5 (C3 r) 126::bx c0b [iv t1] 3::L11++([]))) (F8 [L11,[bx b5 (C3 r) 126],[bx c0b [iv t1] 3]] [1,2,0] 3 rfl (by decide) rfl [[bx b5 (C3 r) 126],[bx c0b [iv t1] 3],L11] rfl (by first|rfl|simp)) ?_
  refine ip' 1 0 [(45,bv (!y10))] ?_
  refine ie (A1q rfl (fun h15=>?_) (fun h15=>?_))
  ·have h15b:y10=false:=by simpa using h15
   rw [h15b] at hy13;try simp only [if_true,if_false,Bool.false_eq_true] at hy13
   refine B5 ?_
   exact C0i rfl ⟨hr,hD⟩ (by simp [hD]) (B8b rfl) (L':=L11) (Φ':=Φ12) (by exact .inr hy13) (mcT [[bx b5 (C3 r) 126],[bx c0b [iv t1] 3],L11] 2 rfl rfl) (A2.dropT 3 rfl)
  ·have h15b:y10=true:=by simpa using h15
   rw [h15b] at hy13;try simp only [if_true,if_false,Bool.false_eq_true] at hy13
   refine B1 (nx (A5 3 rfl (zrg 3 0 [0,1] [] (bx b5 (C3 r) 126::bx c0b [iv r.til] 3::L11++([])) (A7 ?_))))
   exact E3k (z1:=(fu1+1)) (z2:=t1) (z3:=R_) (z4:=Lt) (z5:=Ft) fu1 r.til R9 L11 Φ12 ⟨(by omega),hR,hy13,(by omega)⟩ (Nat.lt_succ_self _) (mc [[bx b5 (C3 r) 126],[bx c0b [iv r.til] 3],L11] [false,true,true] rfl (by first|rfl|(simp only [List.length_set]<;>rfl))) (A2.con1 (B0 0 rfl) (A2.con1 (B0 1 rfl) (A2.con1 (B0 2 rfl) (A2.dropT 3 rfl))))
 subst hR
 refine H7 ?_
 exact A9e rfl ⟨hr,hD⟩ (by simp [hD]) (B8b rfl) (L':=Lt) (Φ':=Ft) (by exact .inl hILt) (mcT [[bx c0b [iv t1] 3],Lt] 1 rfl rfl) (A2.dropT 3 rfl)
def A2e (l:List Act) (c:Cel):List Act :=
 (bif (!decide (c.marks.a=0)) then (bif (!decide (c.marks.b=0)) then (((l++([{Act.zero with kind:=1,n:=c.base}]:List Act))++([{Act.zero with kind:=1,n:=c.marks.a}]:List Act))++([{Act.zero with kind:=1,n:=c.marks.b}]:List Act)) else ((l++([{Act.zero with kind:=1,n:=c.base}]:List Act))++([{Act.zero with kind:=1,n:=c.marks.a}]:List Act))) else (bif (!decide (c.marks.b=0)) then ((l++([{Act.zero with kind:=1,n:=c.base}]:List Act))++([{Act.zero with kind:=1,n:=c.marks.b}]:List Act)) else (l++([{Act.zero with kind:=1,n:=c.base}]:List Act))))
theorem A5b (l:List Act) (c:Cel):(A2e l c).length≤l.length+3∧((∀ a ∈ l,a.text.length≤100000000)→∀ a ∈ A2e l c,a.text.length≤100000000):=by
 have h1:∀ (l:List Act) (n:Int),(∀ a ∈ l,a.text.length≤100000000)→∀ a ∈ l++([{Act.zero with kind:=1,n:=n}]:List Act),a.text.length≤100000000:=fun l n h a ha=>by
  rcases List.mem_append.1 ha with ha | ha
  ·exact h a ha
  ·rw [List.mem_singleton.1 ha];exact Nat.zero_le _
 unfold A2e
 simp only [Bool.cond_eq_ite]
 repeat' split
 all_goals refine ⟨by simp only [List.length_append,List.length_cons,List.length_nil];omega,fun h=>?_⟩
 all_goals first|exact h1 _ _ (h1 _ _ (h1 _ _ h))|exact h1 _ _ (h1 _ _ h)|exact h1 _ _ h
theorem B4f (l:List Act) (c:Cel) (lr:VR) (hoklr:VOk 6 l.length lr) (hn:l.length≤1000000) (R:List Act) (hR:A2e l c=R):Con Tryz.prog 157 [.slice (va lr.q) l.length lr.k,ag (L9 c)] ((vo A0 26 lr l)++([])) [] ({r:VR // VOk 6 R.length r}) (fun x=>.slice (va x.1.q) R.length x.1.k) (fun x=>((vo A0 26 x.1 R)++([]))) (fun x=>[]):=by
 refine zco Tryz.func157 [(0,.slice (va lr.q) l.length lr.k),(1,ag (L9 c))] fun X hX hr hD=>?_
 replace hR:=(A2e.eq_1 ..).symm.trans hR
 have:=VOk.le hoklr
 refine sr 2 rfl (M8 2 0 [] (fun b1=>[(3,pt b1 0)]) (fun b1=>(bx b1 (L9 c) 73::(vo A0 26 lr l)++([]))) (fun b1=>(ie (sr 7 rfl (zrl 4 3 [0] [(7,.slice (va lr.q) l.length lr.k),(10,ag (A0 ({Act.zero with kind:=1,n:=c.base})))] (it rfl (C0 (c:=A0) (xs:=([{Act.zero with kind:=1,n:=c.base}]:List Act)) A1n rfl rfl rfl (by kernel_rfl)) fun b2=>?_))))))
 have:([{Act.zero with kind:=1,n:=c.base}]:List Act).length=1:=rfl
 refine it rfl (X9 (f:=A0) (r:=lr) (xs:=l) (ys:=([{Act.zero with kind:=1,n:=c.base}]:List Act)) (pre:=[bx b1 (L9 c) 73]) (post:=[]) B0y (fun _=>rfl) (fun _=>rfl) rfl rfl rfl rfl rfl rfl rfl rfl rfl (B0 0 rfl) hoklr (by first|omega|(simp<;>omega)) (by first|omega|(simp<;>omega))) fun ⟨r3,hr4⟩=>?_
 have:=VOk.le hr4
 have:=VOk.cap hr4
 refine ip' 1 0 [(0,.slice (va r3.q) ((l++([{Act.zero with kind:=1,n:=c.base}]:List Act)).length) r3.k)] (ie (A8 (sr 3 rfl (zrl 3 0 [0] [(14,ag (B2r c.marks)),(15,iv 0)] (ie (B4 (Z8 4 ?_)))))))
 refine D7 (sr 1 rfl (ip' 1 0 [(16,bv true)] ?_))
 refine ie (A8 (K1 rfl (B1 (nx (A8 (B4 (sr 2 rfl (ix rfl (D8 (v:=iv c.marks.a) (us:=[iv c.marks.a]) Tryz.underlying71 ty3 rfl rfl rfl 0 rfl (by decide) rfl rfl rfl) (ip' 1 0 [(6,iv c.marks.a)] (ie (sr 2 rfl (ip' 2 0 [(19,bv (!decide (c.marks.a=0)))] (ie ?_)))))))))))))
 refine zjn rfl hR ?_ ?_<;>clear hR<;>intro hR h5 h5p
 ·refine A5 6 rfl (zrl 3 3 [] [(20,.slice (va r3.q) ((l++([{Act.zero with kind:=1,n:=c.base}]:List Act)).length) r3.k),(22,ag (A0 ({Act.zero with kind:=1,n:=c.marks.a})))] (it rfl (C0 (c:=A0) (xs:=([{Act.zero with kind:=1,n:=c.marks.a}]:List Act)) A1n rfl rfl rfl (by kernel_rfl)) fun b6=>?_))
  have:([{Act.zero with kind:=1,n:=c.marks.a}]:List Act).length=1:=rfl
  refine it rfl (X9 (f:=A0) (r:=r3) (xs:=(l++([{Act.zero with kind:=1,n:=c.base}]:List Act))) (ys:=([{Act.zero with kind:=1,n:=c.marks.a}]:List Act)) (pre:=[bx b1 (L9 c) 73]) (post:=[]) B0y (fun _=>rfl) (fun _=>rfl) rfl rfl rfl rfl rfl rfl rfl rfl rfl (B0 0 rfl) hr4 (by first|omega|(simp<;>omega)) (by first|omega|(simp<;>omega))) fun ⟨r7,hr8⟩=>?_
  have:=VOk.le hr8
  have:=VOk.cap hr8
  refine ip' 1 0 [(0,.slice (va r7.q) (((l++([{Act.zero with kind:=1,n:=c.base}]:List Act))++([{Act.zero with kind:=1,n:=c.marks.a}]:List Act)).length) r7.k)] (A7 (nx (A5 2 rfl (ix rfl (B7 (c:=1) rfl rfl rfl rfl (by decide)) (ip' 1 0 [(15,iv 1)] (A7 (D7 (sr 1 rfl (ip' 1 0 [(16,bv true)] (ie (A8 (K1 rfl (B1 (nx (A8 (B4 (sr 2 rfl (ix rfl (D8 (v:=iv c.marks.b) (us:=[iv c.marks.b]) Tryz.underlying71 ty3 rfl rfl rfl 1 rfl (by decide) rfl rfl rfl) (ip' 1 0 [(6,iv c.marks.b)] (ie (sr 2 rfl (ip' 2 0 [(19,bv (!decide (c.marks.b=0)))] ?_))))))))))))))))))))))
  refine ie ?_
  refine zjn rfl hR ?_ ?_<;>clear hR<;>intro hR h9 h9p
  ·refine A5 6 rfl (zrl 3 3 [] [(20,.slice (va r7.q) (((l++([{Act.zero with kind:=1,n:=c.base}]:List Act))++([{Act.zero with kind:=1,n:=c.marks.a}]:List Act)).length) r7.k),(22,ag (A0 ({Act.zero with kind:=1,n:=c.marks.b})))] (it rfl (C0 (c:=A0) (xs:=([{Act.zero with kind:=1,n:=c.marks.b}]:List Act)) A1n rfl rfl rfl (by kernel_rfl)) fun b10=>?_))
   have:([{Act.zero with kind:=1,n:=c.marks.b}]:List Act).length=1:=rfl
   refine it rfl (X9 (f:=A0) (r:=r7) (xs:=((l++([{Act.zero with kind:=1,n:=c.base}]:List Act))++([{Act.zero with kind:=1,n:=c.marks.a}]:List Act))) (ys:=([{Act.zero with kind:=1,n:=c.marks.b}]:List Act)) (pre:=[bx b1 (L9 c) 73]) (post:=[]) B0y (fun _=>rfl) (fun _=>rfl) rfl rfl rfl rfl rfl rfl rfl rfl rfl (B0 0 rfl) hr8 (by first|omega|(simp<;>omega)) (by first|omega|(simp<;>omega))) fun ⟨r11,hr12⟩=>?_
   have:=VOk.le hr12
   have:=VOk.cap hr12
   refine ip' 1 0 [(0,.slice (va r11.q) ((((l++([{Act.zero with kind:=1,n:=c.base}]:List Act))++([{Act.zero with kind:=1,n:=c.marks.a}]:List Act))++([{Act.zero with kind:=1,n:=c.marks.b}]:List Act)).length) r11.k)] (A7 (nx (A5 2 rfl (ix rfl (B7 (c:=2) rfl rfl rfl rfl (by decide)) (ip' 1 0 [(15,iv 2)] (A7 (D7 (sr 1 rfl (ip' 1 0 [(16,bv false)] (ie (A8 (A4y rfl (H7 (nx (sr 2 rfl (ip' 2 0 [(4,.slice (va r11.q) ((((l++([{Act.zero with kind:=1,n:=c.base}]:List Act))++([{Act.zero with kind:=1,n:=c.marks.a}]:List Act))++([{Act.zero with kind:=1,n:=c.marks.b}]:List Act)).length) r11.k)] ?_))))))))))))))))
   subst hR
   refine ie (B5 ?_)
   exact zer hr hD (Q9 rfl (C1 rfl)) ⟨r11,hr12⟩ (mc [[bx b1 (L9 c) 73],vo A0 26 r11 (((l++([{Act.zero with kind:=1,n:=c.base}]:List Act))++([{Act.zero with kind:=1,n:=c.marks.a}]:List Act))++([{Act.zero with kind:=1,n:=c.marks.b}]:List Act))] [false,true] rfl (by first|rfl|(simp only [List.length_set]<;>rfl))) fn0
  refine B1 (nx (A5 2 rfl (ix rfl (B7 (c:=2) rfl rfl rfl rfl (by decide)) (ip' 1 0 [(15,iv 2)] (A7 (D7 (sr 1 rfl (ip' 1 0 [(16,bv false)] (ie (A8 (A4y rfl (H7 (nx (sr 2 rfl (ip' 2 0 [(4,.slice (va r7.q) (((l++([{Act.zero with kind:=1,n:=c.base}]:List Act))++([{Act.zero with kind:=1,n:=c.marks.a}]:List Act)).length) r7.k)] ?_)))))))))))))))
  subst hR
  refine ie (B5 ?_)
  exact zer hr hD (Q9 rfl (C1 rfl)) ⟨r7,hr8⟩ (mc [[bx b1 (L9 c) 73],vo A0 26 r7 ((l++([{Act.zero with kind:=1,n:=c.base}]:List Act))++([{Act.zero with kind:=1,n:=c.marks.a}]:List Act))] [false,true] rfl (by first|rfl|(simp only [List.length_set]<;>rfl))) fn0
 refine B1 (nx (A5 2 rfl (ix rfl (B7 (c:=1) rfl rfl rfl rfl (by decide)) (ip' 1 0 [(15,iv 1)] (A7 (D7 (sr 1 rfl (ip' 1 0 [(16,bv true)] (ie (A8 (K1 rfl (B1 (nx (A8 (B4 (sr 2 rfl (ix rfl (D8 (v:=iv c.marks.b) (us:=[iv c.marks.b]) Tryz.underlying71 ty3 rfl rfl rfl 1 rfl (by decide) rfl rfl rfl) (ip' 1 0 [(6,iv c.marks.b)] (ie (sr 2 rfl (ip' 2 0 [(19,bv (!decide (c.marks.b=0)))] (ie ?_))))))))))))))))))))))
 refine zjn rfl hR ?_ ?_<;>clear hR<;>intro hR h13 h13p
 ·refine A5 6 rfl (zrl 3 3 [] [(20,.slice (va r3.q) ((l++([{Act.zero with kind:=1,n:=c.base}]:List Act)).length) r3.k),(22,ag (A0 ({Act.zero with kind:=1,n:=c.marks.b})))] (it rfl (C0 (c:=A0) (xs:=([{Act.zero with kind:=1,n:=c.marks.b}]:List Act)) A1n rfl rfl rfl (by kernel_rfl)) fun b14=>?_))
  have:([{Act.zero with kind:=1,n:=c.marks.b}]:List Act).length=1:=rfl
  refine it rfl (X9 (f:=A0) (r:=r3) (xs:=(l++([{Act.zero with kind:=1,n:=c.base}]:List Act))) (ys:=([{Act.zero with kind:=1,n:=c.marks.b}]:List Act)) (pre:=[bx b1 (L9 c) 73]) (post:=[]) B0y (fun _=>rfl) (fun _=>rfl) rfl rfl rfl rfl rfl rfl rfl rfl rfl (B0 0 rfl) hr4 (by first|omega|(simp<;>omega)) (by first|omega|(simp<;>omega))) fun ⟨r15,hr16⟩=>?_
  have:=VOk.le hr16
  have:=VOk.cap hr16
  refine ip' 1 0 [(0,.slice (va r15.q) (((l++([{Act.zero with kind:=1,n:=c.base}]:List Act))++([{Act.zero with kind:=1,n:=c.marks.b}]:List Act)).length) r15.k)] (A7 (nx (A5 2 rfl (ix rfl (B7 (c:=2) rfl rfl rfl rfl (by decide)) (ip' 1 0 [(15,iv 2)] (A7 (D7 (sr 1 rfl (ip' 1 0 [(16,bv false)] (ie (A8 (A4y rfl (H7 (nx (sr 2 rfl (ip' 2 0 [(4,.slice (va r15.q) (((l++([{Act.zero with kind:=1,n:=c.base}]:List Act))++([{Act.zero with kind:=1,n:=c.marks.b}]:List Act)).length) r15.k)] ?_))))))))))))))))
  subst hR
  refine ie (B5 ?_)
  exact zer hr hD (Q9 rfl (C1 rfl)) ⟨r15,hr16⟩ (mc [[bx b1 (L9 c) 73],vo A0 26 r15 ((l++([{Act.zero with kind:=1,n:=c.base}]:List Act))++([{Act.zero with kind:=1,n:=c.marks.b}]:List Act))] [false,true] rfl (by first|rfl|(simp only [List.length_set]<;>rfl))) fn0
 refine B1 (nx (A5 2 rfl (ix rfl (B7 (c:=2) rfl rfl rfl rfl (by decide)) (ip' 1 0 [(15,iv 2)] (A7 (D7 (sr 1 rfl (ip' 1 0 [(16,bv false)] (ie (A8 (A4y rfl (H7 (nx (sr 2 rfl (ip' 2 0 [(4,.slice (va r3.q) ((l++([{Act.zero with kind:=1,n:=c.base}]:List Act)).length) r3.k)] ?_)))))))))))))))
 subst hR
 refine ie (B5 ?_)
 exact zer hr hD (Q9 rfl (C1 rfl)) ⟨r3,hr4⟩ (mc [[bx b1 (L9 c) 73],vo A0 26 r3 (l++([{Act.zero with kind:=1,n:=c.base}]:List Act))] [false,true] rfl (by first|rfl|(simp only [List.length_set]<;>rfl))) fn0
def A1 (pheldStyle:Sty) (pl:List Act) (pat:Int) (to_:Sty):List Act :=
 (B6 (A2y pheldStyle to_) fun (y9:List Act×Int)=>y9.1)
theorem N6 (pheldStyle:Sty) (pl:List Act) (pat:Int) (to_:Sty):(A1 pheldStyle pl pat to_).length≤22∧(∀ a ∈ A1 pheldStyle pl pat to_,a.kind=39∧a.text=[])∧∀ a ∈ A1 pheldStyle pl pat to_,a.text.length≤100000000:=by
 unfold A1 B6
 exact ⟨B1w _ _,B1v _ _,fun a ha=>by rw [(B1v _ _ a ha).2];exact Nat.zero_le _⟩
theorem C8g {l:List Act} {a:Act} (h:∀ a ∈ l,a.text.length≤100000000) (ha:a.text=[]):∀ x ∈ l++([a]:List Act),x.text.length≤100000000:=fun x hx=>by
 rcases List.mem_append.1 hx with hx | hx
 ·exact h x hx
 ·rw [List.mem_singleton.1 hx,ha];exact Nat.zero_le _
theorem Y3 (pheldStyle:Sty) (pl:List Act) (pat:Int) (to_:Sty) (pb:Nat) (plr:VR) (hokplr:VOk 6 pl.length plr) (R:List Act) (hR:A1 pheldStyle pl pat to_=R):Con Tryz.prog 156 [pt pb 0,ag (A4 to_)] (pbx pb pheldStyle plr pl.length pat::(vo A0 26 plr pl)++([])) [A1y,A1z,M9,M1,I6,N9] ({r:VR // VOk 6 R.length r}) (fun x=>.slice (va x.1.q) R.length x.1.k) (fun x=>(pbx pb pheldStyle plr pl.length pat::(vo A0 26 plr pl)++((vo A0 26 x.1 R)++([])))) (fun x=>[]):=by
 refine zco Tryz.func156 [(0,pt pb 0),(1,ag (A4 to_))] fun X hX hr hD=>?_
 replace hR:=(A1.eq_1 ..).symm.trans hR
 have:=VOk.le hokplr
 refine sr 2 rfl (M8 2 0 [] (fun b1=>[(3,pt b1 0)]) (fun b1=>(bx b1 (A4 to_) 67::pbx pb pheldStyle plr pl.length pat::(vo A0 26 plr pl)++([]))) (fun b1=>(ie ?_)))
 refine sh 12 [(12,[bx b1 (A4 to_) 67]),(12,[pbx pb pheldStyle plr pl.length pat]),(12,vo A0 26 plr pl)] [A1y,A1z,M9,M1,I6,N9] (bx b1 (A4 to_) 67::pbx pb pheldStyle plr pl.length pat::(vo A0 26 plr pl)++([])) (zml 12 0) (by kernel_rfl) rfl (by kernel_rfl) (by kernel_rfl) (by kernel_rfl) (mc [[bx b1 (A4 to_) 67],[pbx pb pheldStyle plr pl.length pat],vo A0 26 plr pl] [true,true,true] (by first|rfl|simp) (by first|rfl|(simp only [List.length_set]<;>rfl))) A2.refl ?_
 refine zhp [0,1,2,3] 8 (zml 12 15) [(11,pt pb 0)] ?_
 refine zhl 4 (bx b1 (A4 to_) 67::pbx pb pheldStyle plr pl.length pat::(vo A0 26 plr pl)++([])) (zml 12 31) rfl (F6 (us:=[iv pheldStyle.attr,iv pheldStyle.under,iv pheldStyle.fore.kind,iv pheldStyle.fore.n,iv pheldStyle.back.kind,iv pheldStyle.back.n,iv pheldStyle.line.kind,iv pheldStyle.line.n]) B5d rfl rfl 1 rfl rfl rfl) ?_
 refine zhl 5 (bx b1 (A4 to_) 67::pbx pb pheldStyle plr pl.length pat::(vo A0 26 plr pl)++([])) (zml 12 63) rfl (F6 (us:=A4 to_) B5d rfl rfl 0 rfl rfl rfl) ?_
 have hQ:=D0 hR;clear hR;obtain ⟨y9,hy9,hR⟩:=hQ
 refine zho 6 (bx b1 (A4 to_) 67::pbx pb pheldStyle plr pl.length pat::(vo A0 26 plr pl)++([])) (zml 12 127) rfl (G8 (L2:=(bx b1 (A4 to_) 67::pbx pb pheldStyle plr pl.length pat::(vo A0 26 plr pl)++([]))) (C9i pheldStyle to_ y9 hy9) rfl rfl rfl rfl rfl A2.refl (List.Perm.refl _) (fun ⟨r2,hk3⟩=>(bx b1 (A4 to_) 67::pbx pb pheldStyle plr pl.length pat::(vo A0 26 plr pl)++((vo A0 26 r2 y9.1)++([])))) (fun ⟨r2,hk3⟩=>F8 [vo A0 26 r2 y9.1,[bx b1 (A4 to_) 67],[pbx pb pheldStyle plr pl.length pat],vo A0 26 plr pl] [1,2,3,0] 4 rfl (by decide) (by first|rfl|simp) [[bx b1 (A4 to_) 67],[pbx pb pheldStyle plr pl.length pat],vo A0 26 plr pl,vo A0 26 r2 y9.1] rfl (by first|rfl|simp))) (fun ⟨r2,hk3⟩=>(mc [[bx b1 (A4 to_) 67],[pbx pb pheldStyle plr pl.length pat],vo A0 26 plr pl,vo A0 26 r2 y9.1] [true,true,true,false] (by first|rfl|simp) (by first|rfl|(simp only [List.length_set]<;>rfl)))) (fun ⟨r2,hk3⟩=>A2.refl) fun ⟨r2,hk3⟩=>?_
 have:=VOk.le hk3
 have:=VOk.cap hk3
 have:=B1w pheldStyle to_;try rw [hy9] at this
 have:=B1v pheldStyle to_;try rw [hy9] at this
 refine zhp [7,8,9,10,11] 0 (zml 12 4095) [(5,.slice (va r2.q) y9.1.length r2.k)] ?_
 refine A4z (by kernel_rfl) ?_
 refine sr 2 rfl (ip' 2 0 [(4,.slice (va r2.q) y9.1.length r2.k)] ?_)
 subst hR
 refine ie (B5 ?_)
 exact zer hr hD (Q9 rfl (C1 rfl)) ⟨r2,hk3⟩ (mc [[bx b1 (A4 to_) 67],[pbx pb pheldStyle plr pl.length pat],vo A0 26 plr pl,vo A0 26 r2 y9.1] [false,true,true,true] (by first|rfl|simp) (by first|rfl|(simp only [List.length_set]<;>rfl))) fn0
def G4 (r:Prn):Nat→List Act→Nat→(List Act×Sty×Int×Bool)
 | 0,_,_=>([],Sty.zero,0,false)
 | fu1+1,l,t16=>(bif (decide ((t16:Int)<r.many)) then (B6 (A2e l r.sign) fun (y4:List Act)=>G4 r fu1 y4 (t16+1)) else (l,r.sign.sty,r.til,true))
def K5 (pheldStyle:Sty) (pl:List Act) (pat:Int) (r:Prn) (p2:Bool):List Act×Sty×Int×Bool :=
 (B6 (A1 pheldStyle pl pat r.sign.sty) fun (y8:List Act)=>G4 r ((r.many - (0:Int)).toNat+1) y8 0)
theorem A2r (r:Prn):∀ (fu:Nat) (l:List Act) (t:Nat),(∀ a ∈ l,a.text.length≤100000000)→(G4 r fu l t).1.length≤l.length+3 * (r.many - t).toNat∧∀ a ∈ (G4 r fu l t).1,a.text.length≤100000000
 | 0,l,t,_=>by
  rw [G4]
  exact ⟨Nat.zero_le _,fun a ha=>by cases ha⟩
 | fu+1,l,t,h=>by
  rw [G4]
  by_cases c:(t:Int)<r.many
  ·rw [decide_eq_true c,cond_true,B6]
   have hs:=A5b l r.sign
   have ih:=A2r r fu _ (t+1) (hs.2 h)
   exact ⟨by have:=ih.1;have:=hs.1;omega,ih.2⟩
  ·rw [decide_eq_false c,cond_false]
   exact ⟨Nat.le_add_right _ _,h⟩
theorem A0j (pheldStyle:Sty) (pl:List Act) (pat:Int) (r:Prn) (p2:Bool) (hm:0≤r.many∧r.many≤100):(K5 pheldStyle pl pat r p2).1.length≤322∧∀ a ∈ (K5 pheldStyle pl pat r p2).1,a.text.length≤100000000:=by
 unfold K5 B6
 have hs:=N6 pheldStyle pl pat r.sign.sty
 have:=A2r r ((r.many - (0:Int)).toNat+1) _ 0 hs.2.2
 exact ⟨Nat.le_trans this.1 (by have:=hs.1;omega),this.2⟩
theorem B1p (pheldStyle:Sty) (pl:List Act) (pat:Int) (r:Prn) (p2:Bool) (pb:Nat) (plr:VR) (hokplr:VOk 6 pl.length plr) (hmy:0≤r.many∧r.many≤100) (R:List Act×Sty×Int×Bool) (hR:K5 pheldStyle pl pat r p2=R):Con Tryz.prog 112 [pt pb 0,ag (C3 r),bv p2] (pbx pb pheldStyle plr pl.length pat::(vo A0 26 plr pl)++([])) [A1y,A1z,M9,M1,I6,N9] ({r:VR // VOk 6 R.1.length r}) (fun x=>.tuple #[ag [.slice (va x.1.q) R.1.length x.1.k,iv R.2.1.attr,iv R.2.1.under,iv R.2.1.fore.kind,iv R.2.1.fore.n,iv R.2.1.back.kind,iv R.2.1.back.n,iv R.2.1.line.kind,iv R.2.1.line.n,iv R.2.2.1],bv R.2.2.2]) (fun x=>(pbx pb pheldStyle plr pl.length pat::(vo A0 26 plr pl)++((vo A0 26 x.1 R.1)++([])))) (fun x=>[]):=by
 refine zco Tryz.func112 [(0,pt pb 0),(1,ag (C3 r))] fun X hX hr hD=>?_
 replace hR:=(K5.eq_1 ..).symm.trans hR
 have:=VOk.le hokplr
 refine sr 3 rfl (B9a 3 0 [] (fun b1 b2=>[(4,pt b1 0),(6,pt b2 0)]) (fun b1 b2=>(zbx b2::bx b1 (C3 r) 126::pbx pb pheldStyle plr pl.length pat::(vo A0 26 plr pl)++([]))) (fun b1 b2=>(ie (sr 6 rfl (zrl 4 2 [1] [(9,pt pb 0),(12,ag (A4 r.sign.sty))] ?_)))))
 have hQ:=D0 hR;clear hR;obtain ⟨y8,hy8,hR⟩:=hQ
 refine it rfl (G8 (L2:=[zbx b2,bx b1 (C3 r) 126]) (Y3 pheldStyle pl pat r.sign.sty pb plr hokplr y8 hy8) rfl rfl rfl rfl rfl A2.refl (F8 [[zbx b2],[bx b1 (C3 r) 126],[pbx pb pheldStyle plr pl.length pat],vo A0 26 plr pl] [2,3,0,1] 4 rfl (by decide) rfl [[pbx pb pheldStyle plr pl.length pat],vo A0 26 plr pl,[zbx b2],[bx b1 (C3 r) 126]] rfl (by first|rfl|simp)) (fun ⟨r3,hk4⟩=>(zbx b2::bx b1 (C3 r) 126::pbx pb pheldStyle plr pl.length pat::(vo A0 26 plr pl)++((vo A0 26 r3 y8)++([])))) (fun ⟨r3,hk4⟩=>F8 [[pbx pb pheldStyle plr pl.length pat],vo A0 26 plr pl,vo A0 26 r3 y8,[zbx b2],[bx b1 (C3 r) 126]] [3,4,0,1,2] 5 rfl (by decide) (by first|rfl|simp) [[zbx b2],[bx b1 (C3 r) 126],[pbx pb pheldStyle plr pl.length pat],vo A0 26 plr pl,vo A0 26 r3 y8] rfl (by first|rfl|simp))) fun ⟨r3,hk4⟩=>?_
 have:=VOk.le hk4
 have:=VOk.cap hk4
 have:=N6 pheldStyle pl pat r.sign.sty;try rw [hy8] at this
 obtain ⟨_,_,_⟩:=this
 refine ip' 1 0 [(8,.slice (va r3.q) y8.length r3.k)] (ie (A8 (sr 3 rfl (zrl 3 0 [1] [(15,iv r.many),(16,iv 0)] (ie (B4 ?_))))))
 refine C3e (fun (fu:Nat) (l:List Act) (lr:VR) (t16:Nat)=>((r.many - (t16:Int)).toNat<fu∧G4 r fu l t16=R∧VOk 6 l.length lr∧(l.length≤22+3 * t16∧(t16:Int)≤r.many),[(4,pt b1 0),(6,pt b2 0),(8,.slice (va lr.q) l.length lr.k),(15,iv r.many),(16,iv (t16:Int))],(zbx b2::bx b1 (C3 r) 126::pbx pb pheldStyle plr pl.length pat::(vo A0 26 plr pl)++((vo A0 26 lr l)++([]))),[A1y,A1z,M9,M1,I6,N9],fu)) ((r.many - (0:Int)).toNat+1) y8 r3 0 ⟨(Nat.lt_succ_self _),hR,hk4,(by omega)⟩ (mc [[zbx b2],[bx b1 (C3 r) 126],[pbx pb pheldStyle plr pl.length pat],vo A0 26 plr pl,vo A0 26 r3 y8] [true,true,true,true,true] (by first|rfl|simp) (by first|rfl|(simp only [List.length_set]<;>rfl))) A2.refl ?_
 rintro fu l lr t16 ⟨hm5,hR,hoklr,hl3⟩
 have:=VOk.le hoklr
 obtain ⟨fu1,rfl⟩:∃ m,fu=m+1:=⟨fu - 1,by omega⟩
 replace hR:=(G4.eq_2 ..).symm.trans hR
 refine sr 1 rfl (ip' 1 0 [(17,bv (decide ((t16:Int)<r.many)))] (ie (A8 ?_)))
 refine zjd rfl hR ?_ ?_<;>clear hR<;>intro hR h6 h6p
 ·refine B1 (nx (A8 (B4 (A5 5 rfl (zrl 3 2 [1] [(18,.slice (va lr.q) l.length lr.k),(20,ag (L9 r.sign))] ?_)))))
  have hQ:=D0 hR;clear hR;obtain ⟨y4,hy4,hR⟩:=hQ
  refine it rfl (G8 (L2:=(zbx b2::bx b1 (C3 r) 126::pbx pb pheldStyle plr pl.length pat::(vo A0 26 plr pl)++([]))) (B4f l r.sign lr hoklr (by first|omega|(simp<;>omega)) y4 hy4) rfl rfl rfl rfl rfl fn0 (F8 [[zbx b2],[bx b1 (C3 r) 126],[pbx pb pheldStyle plr pl.length pat],vo A0 26 plr pl,vo A0 26 lr l] [4,0,1,2,3] 5 rfl (by decide) rfl [vo A0 26 lr l,[zbx b2],[bx b1 (C3 r) 126],[pbx pb pheldStyle plr pl.length pat],vo A0 26 plr pl] rfl (by first|rfl|simp)) (fun ⟨r7,hk8⟩=>(zbx b2::bx b1 (C3 r) 126::pbx pb pheldStyle plr pl.length pat::(vo A0 26 plr pl)++((vo A0 26 r7 y4)++([])))) (fun ⟨r7,hk8⟩=>F8 [vo A0 26 r7 y4,[zbx b2],[bx b1 (C3 r) 126],[pbx pb pheldStyle plr pl.length pat],vo A0 26 plr pl] [1,2,3,4,0] 5 rfl (by decide) (by first|rfl|simp) [[zbx b2],[bx b1 (C3 r) 126],[pbx pb pheldStyle plr pl.length pat],vo A0 26 plr pl,vo A0 26 r7 y4] rfl (by first|rfl|simp))) fun ⟨r7,hk8⟩=>?_
  have:=VOk.le hk8
  have:=VOk.cap hk8
  have:=A5b l r.sign;try rw [hy4] at this
  refine ip' 1 0 [(8,.slice (va r7.q) y4.length r7.k)] (A7 (nx (A5 2 rfl (ix rfl (B7 rfl rfl rfl rfl (by omega)) (ip' 1 0 [(16,iv ((t16:Int)+1))] (A7 ?_))))))
  exact B9v (z1:=(fu1+1)) (z2:=l) (z3:=lr) (z4:=t16) fu1 y4 r7 (t16+1) ⟨(by omega),hR,hk8,(by omega)⟩ (Nat.lt_succ_self _) (mc [[zbx b2],[bx b1 (C3 r) 126],[pbx pb pheldStyle plr pl.length pat],vo A0 26 plr pl,vo A0 26 r7 y4] [true,true,true,true,true] (by first|rfl|simp) (by first|rfl|(simp only [List.length_set]<;>rfl))) A2.refl
 refine H7 (nx (sr 9 rfl (zrg 9 0 [1,1,0] [(7,bv true)] (obx b2 r.sign.sty lr l.length r.til::bx b1 (C3 r) 126::pbx pb pheldStyle plr pl.length pat::(vo A0 26 plr pl)++((vo A0 26 lr l)++([]))) ?_)))
 subst hR
 refine ie (B5 ?_)
 exact zer hr hD (A5j rfl (F5 (us:=[.slice (va lr.q) l.length lr.k,iv r.sign.sty.attr,iv r.sign.sty.under,iv r.sign.sty.fore.kind,iv r.sign.sty.fore.n,iv r.sign.sty.back.kind,iv r.sign.sty.back.n,iv r.sign.sty.line.kind,iv r.sign.sty.line.n,iv r.til]) B4a rfl 0 rfl rfl rfl) (C1 rfl)) ⟨lr,hoklr⟩ (mc [[obx b2 r.sign.sty lr l.length r.til],[bx b1 (C3 r) 126],[pbx pb pheldStyle plr pl.length pat],vo A0 26 plr pl,vo A0 26 lr l] [false,false,true,true,true] (by first|rfl|simp) (by first|rfl|(simp only [List.length_set]<;>rfl))) fn0
def K0 (pheldStyle:Sty) (pl:List Act) (pat:Int) (r:Prn) (p2:Bool):List Act×Sty×Int×Bool :=
 (bif ((decide (r.many<2))||(!(Z9 r.sign))) then (([]:List Act),(⟨0,0,(⟨0,0⟩:Col),(⟨0,0⟩:Col),(⟨0,0⟩:Col)⟩:Sty),0,false) else (B6 (A1 pheldStyle pl pat r.sign.sty) fun (y8:List Act)=>(B6 (A2e y8 r.sign) fun (y4:List Act)=>((y4++([{Act.zero with kind:=34,n:=(IntKind.i64.wrap (r.many - (1:Int)))}]:List Act)),r.sign.sty,r.til,true))))
theorem A0d (pheldStyle:Sty) (pl:List Act) (pat:Int) (r:Prn) (p2:Bool):(K0 pheldStyle pl pat r p2).1.length≤322∧∀ a ∈ (K0 pheldStyle pl pat r p2).1,a.text.length≤100000000:=by
 unfold K0 B6
 have hs:=N6 pheldStyle pl pat r.sign.sty
 have h2:=A5b (A1 pheldStyle pl pat r.sign.sty) r.sign
 simp only [Bool.cond_eq_ite]
 split
 ·exact ⟨Nat.zero_le _,fun a ha=>by cases ha⟩
 ·exact ⟨by simp only [List.length_append,List.length_cons,List.length_nil];omega,C8g (h2.2 hs.2.2) rfl⟩
theorem B0m (pheldStyle:Sty) (pl:List Act) (pat:Int) (r:Prn) (p2:Bool) (pb:Nat) (plr:VR) (hokplr:VOk 6 pl.length plr) (hmy:0≤r.many∧r.many≤100) (R:List Act×Sty×Int×Bool) (hR:K0 pheldStyle pl pat r p2=R):Con Tryz.prog 113 [pt pb 0,ag (C3 r),bv p2] (pbx pb pheldStyle plr pl.length pat::(vo A0 26 plr pl)++([])) [A1y,A1z,M9,M1,I6,N9] ({r:VR // VOk 6 R.1.length r}) (fun x=>.tuple #[ag [.slice (va x.1.q) R.1.length x.1.k,iv R.2.1.attr,iv R.2.1.under,iv R.2.1.fore.kind,iv R.2.1.fore.n,iv R.2.1.back.kind,iv R.2.1.back.n,iv R.2.1.line.kind,iv R.2.1.line.n,iv R.2.2.1],bv R.2.2.2]) (fun x=>(pbx pb pheldStyle plr pl.length pat::(vo A0 26 plr pl)++((vo A0 26 x.1 R.1)++([])))) (fun x=>[]):=by
 refine zco Tryz.func113 [(0,pt pb 0),(1,ag (C3 r))] fun X hX hr hD=>?_
 replace hR:=(K0.eq_1 ..).symm.trans hR
 have:=VOk.le hokplr
 refine sr 3 rfl (B9a 3 0 [] (fun b1 b2=>[(4,pt b1 0),(6,pt b2 0)]) (fun b1 b2=>(zbx b2::bx b1 (C3 r) 126::pbx pb pheldStyle plr pl.length pat::(vo A0 26 plr pl)++([]))) (fun b1 b2=>(ie (A8 (sr 9 rfl (zrl 4 5 [1] [(12,bv (decide (r.many<2)))] ?_))))))
 refine zir 5 0 12 17 (!(Z9 r.sign)) (fun g3 g3p=>?_) ?_
 ·refine zrl 2 3 [1] [(14,ag (L9 r.sign))] (zca (B8l r.sign _ rfl) fn0 (ip' 2 0 [(17,bv (!(Z9 r.sign)))] ?_))
  exact A7 (U9 4 12 17 g3 A2.refl (mc [[zbx b2],[bx b1 (C3 r) 126],[pbx pb pheldStyle plr pl.length pat],vo A0 26 plr pl] [true,true,true,true] (by first|rfl|simp) (by first|rfl|(simp only [List.length_set]<;>rfl))) rfl rfl rfl rfl rfl)
 refine ie ?_
 refine zjb rfl hR ?_ ?_<;>clear hR<;>intro hR h4
 ·have h4p:=h4;try simp at h4p
  refine sr 3 rfl (zrg 3 0 [0] [(7,bv false)] (zbx b2::bx b1 (C3 r) 126::pbx pb pheldStyle plr pl.length pat::(vo A0 26 plr pl)++([])) ?_)
  subst hR
  refine ie (B5 ?_)
  exact zer hr hD (A5j rfl (F5 (us:=[.slice none 0 0,iv 0,iv 0,iv 0,iv 0,iv 0,iv 0,iv 0,iv 0,iv 0]) B4a rfl 0 rfl rfl rfl) (C1 rfl)) ⟨VR.nil,VOk.nil⟩ (mc [[zbx b2],[bx b1 (C3 r) 126],[pbx pb pheldStyle plr pl.length pat],vo A0 26 plr pl,vo A0 26 VR.nil ([]:List Act)] [false,false,true,true,true] (by first|rfl|simp) (by first|rfl|(simp only [List.length_set]<;>rfl))) fn0
 have h4p:=h4;try simp at h4p
 refine B1 (nx ?_)
 refine sh 9 [(9,[zbx b2]),(9,[bx b1 (C3 r) 126]),(9,[pbx pb pheldStyle plr pl.length pat]),(9,vo A0 26 plr pl)] [A1y,A1z,M9,M1,I6,N9] (zbx b2::bx b1 (C3 r) 126::pbx pb pheldStyle plr pl.length pat::(vo A0 26 plr pl)++([])) (zml 9 0) (by kernel_rfl) rfl (by kernel_rfl) (by kernel_rfl) (by kernel_rfl) (mc [[zbx b2],[bx b1 (C3 r) 126],[pbx pb pheldStyle plr pl.length pat],vo A0 26 plr pl] [true,true,true,true] (by first|rfl|simp) (by first|rfl|(simp only [List.length_set]<;>rfl))) A2.refl ?_
 refine zhp [0,1,2,5] 5 (zml 9 39) [(19,pt pb 0),(21,pt b1 4),(24,pt b1 0)] ?_
 refine zhl 3 (zbx b2::bx b1 (C3 r) 126::pbx pb pheldStyle plr pl.length pat::(vo A0 26 plr pl)++([])) (zml 9 47) rfl (F6 (us:=A4 r.sign.sty) B5d rfl rfl 1 rfl rfl rfl) ?_
 refine zhl 6 (zbx b2::bx b1 (C3 r) 126::pbx pb pheldStyle plr pl.length pat::(vo A0 26 plr pl)++([])) (zml 9 111) rfl (F6 (us:=L9 r.sign) D6b rfl rfl 1 rfl rfl rfl) ?_
 have hQ:=D0 hR;clear hR;obtain ⟨y8,hy8,hR⟩:=hQ
 refine zho 4 (zbx b2::bx b1 (C3 r) 126::pbx pb pheldStyle plr pl.length pat::(vo A0 26 plr pl)++([])) (zml 9 127) rfl (G8 (L2:=[zbx b2,bx b1 (C3 r) 126]) (Y3 pheldStyle pl pat r.sign.sty pb plr hokplr y8 hy8) rfl rfl rfl rfl rfl A2.refl (F8 [[zbx b2],[bx b1 (C3 r) 126],[pbx pb pheldStyle plr pl.length pat],vo A0 26 plr pl] [2,3,0,1] 4 rfl (by decide) rfl [[pbx pb pheldStyle plr pl.length pat],vo A0 26 plr pl,[zbx b2],[bx b1 (C3 r) 126]] rfl (by first|rfl|simp)) (fun ⟨r5,hk6⟩=>(zbx b2::bx b1 (C3 r) 126::pbx pb pheldStyle plr pl.length pat::(vo A0 26 plr pl)++((vo A0 26 r5 y8)++([])))) (fun ⟨r5,hk6⟩=>F8 [[pbx pb pheldStyle plr pl.length pat],vo A0 26 plr pl,vo A0 26 r5 y8,[zbx b2],[bx b1 (C3 r) 126]] [3,4,0,1,2] 5 rfl (by decide) (by first|rfl|simp) [[zbx b2],[bx b1 (C3 r) 126],[pbx pb pheldStyle plr pl.length pat],vo A0 26 plr pl,vo A0 26 r5 y8] rfl (by first|rfl|simp))) (fun ⟨r5,hk6⟩=>(mc [[zbx b2],[bx b1 (C3 r) 126],[pbx pb pheldStyle plr pl.length pat],vo A0 26 plr pl,vo A0 26 r5 y8] [true,true,true,true,false] (by first|rfl|simp) (by first|rfl|(simp only [List.length_set]<;>rfl)))) (fun ⟨r5,hk6⟩=>A2.refl) fun ⟨r5,hk6⟩=>?_
 have:=VOk.le hk6
 have:=VOk.cap hk6
 have:=N6 pheldStyle pl pat r.sign.sty;try rw [hy8] at this
 obtain ⟨_,_,_⟩:=this
 have hQ:=D0 hR;clear hR;obtain ⟨y4,hy4,hR⟩:=hQ
 refine zho 7 (zbx b2::bx b1 (C3 r) 126::pbx pb pheldStyle plr pl.length pat::(vo A0 26 plr pl)++([])) (zml 9 255) rfl (G8 (L2:=(zbx b2::bx b1 (C3 r) 126::pbx pb pheldStyle plr pl.length pat::(vo A0 26 plr pl)++([]))) (B4f y8 r.sign r5 hk6 (by first|omega|(simp<;>omega)) y4 hy4) rfl rfl rfl rfl rfl fn0 (F8 [[zbx b2],[bx b1 (C3 r) 126],[pbx pb pheldStyle plr pl.length pat],vo A0 26 plr pl,vo A0 26 r5 y8] [4,0,1,2,3] 5 rfl (by decide) rfl [vo A0 26 r5 y8,[zbx b2],[bx b1 (C3 r) 126],[pbx pb pheldStyle plr pl.length pat],vo A0 26 plr pl] rfl (by first|rfl|simp)) (fun ⟨r7,hk8⟩=>(zbx b2::bx b1 (C3 r) 126::pbx pb pheldStyle plr pl.length pat::(vo A0 26 plr pl)++((vo A0 26 r7 y4)++([])))) (fun ⟨r7,hk8⟩=>F8 [vo A0 26 r7 y4,[zbx b2],[bx b1 (C3 r) 126],[pbx pb pheldStyle plr pl.length pat],vo A0 26 plr pl] [1,2,3,4,0] 5 rfl (by decide) (by first|rfl|simp) [[zbx b2],[bx b1 (C3 r) 126],[pbx pb pheldStyle plr pl.length pat],vo A0 26 plr pl,vo A0 26 r7 y4] rfl (by first|rfl|simp))) (fun ⟨r7,hk8⟩=>(mc [[zbx b2],[bx b1 (C3 r) 126],[pbx pb pheldStyle plr pl.length pat],vo A0 26 plr pl,vo A0 26 r7 y4] [true,true,true,true,false] (by first|rfl|simp) (by first|rfl|(simp only [List.length_set]<;>rfl)))) (fun ⟨r7,hk8⟩=>A2.refl) fun ⟨r7,hk8⟩=>?_
 have:=VOk.le hk8
 have:=VOk.cap hk8
 have:=A5b y8 r.sign;try rw [hy4] at this
 refine zhp [8] 0 (zml 9 511) [(8,.slice (va r7.q) y4.length r7.k)] ?_
 refine A4z (by kernel_rfl) ?_
 refine sh 15 [(13,[zbx b2]),(15,[bx b1 (C3 r) 126]),(15,[pbx pb pheldStyle plr pl.length pat]),(15,vo A0 26 plr pl),(6,vo A0 26 r7 y4)] [A1y,A1z,M9,M1,I6,N9] (zbx b2::bx b1 (C3 r) 126::pbx pb pheldStyle plr pl.length pat::(vo A0 26 plr pl)++((vo A0 26 r7 y4)++([]))) (zml 15 0) (by kernel_rfl) rfl (by kernel_rfl) (by kernel_rfl) (by kernel_rfl) (mc [[zbx b2],[bx b1 (C3 r) 126],[pbx pb pheldStyle plr pl.length pat],vo A0 26 plr pl,vo A0 26 r7 y4] [true,true,true,true,true] (by first|rfl|simp) (by first|rfl|(simp only [List.length_set]<;>rfl))) A2.refl ?_
 refine zhp [0,1,7,8,10] 10 (zml 15 1411) [(27,.slice (va r7.q) y4.length r7.k),(28,pt b1 12),(35,pt b1 4),(37,pt b1 14)] ?_
 refine zhl 2 (zbx b2::bx b1 (C3 r) 126::pbx pb pheldStyle plr pl.length pat::(vo A0 26 plr pl)++([])) (zml 15 1415) rfl (B2 (v:=iv r.many) ty3 rfl rfl 1 rfl rfl) ?_
 refine zhk 3 (zml 15 1423) rfl (I5.pure rfl) (zhk 4 (zml 15 1439) rfl (A1l (cs:=A0 ({Act.zero with kind:=34,n:=(IntKind.i64.wrap (r.many - (1:Int)))})) rfl rfl (by kernel_rfl)) (zhl 9 (zbx b2::bx b1 (C3 r) 126::pbx pb pheldStyle plr pl.length pat::(vo A0 26 plr pl)++([])) (zml 15 1951) rfl (F6 (us:=A4 r.sign.sty) B5d rfl rfl 1 rfl rfl rfl) ?_))
 refine zhl 11 (zbx b2::bx b1 (C3 r) 126::pbx pb pheldStyle plr pl.length pat::(vo A0 26 plr pl)++([])) (zml 15 3999) rfl (B2 (v:=iv r.til) ty3 rfl rfl 1 rfl rfl) ?_
 refine zho 5 (zbx b2::bx b1 (C3 r) 126::pbx pb pheldStyle plr pl.length pat::(vo A0 26 plr pl)++((vo A0 26 r7 y4)++([]))) (zml 15 4031) rfl (C0 (c:=A0) (xs:=([{Act.zero with kind:=34,n:=(IntKind.i64.wrap (r.many - (1:Int)))}]:List Act)) A1n rfl rfl rfl (by kernel_rfl)) (fun b9=>(mc [[zbx b2],[bx b1 (C3 r) 126],[pbx pb pheldStyle plr pl.length pat],vo A0 26 plr pl,vo A0 26 r7 y4] [true,true,true,true,true] (by first|rfl|simp) (by first|rfl|(simp only [List.length_set]<;>rfl)))) (fun b9=>(A2.pick [1,2,3,4,5,6] rfl)) fun b9=>?_
 have:([{Act.zero with kind:=34,n:=(IntKind.i64.wrap (r.many - (1:Int)))}]:List Act).length=1:=rfl
 refine zho 6 (zbx b2::bx b1 (C3 r) 126::pbx pb pheldStyle plr pl.length pat::(vo A0 26 plr pl)++([])) (zml 15 4095) rfl (Tri.own (X9 (f:=A0) (r:=r7) (xs:=y4) (ys:=([{Act.zero with kind:=34,n:=(IntKind.i64.wrap (r.many - (1:Int)))}]:List Act)) (pre:=(zbx b2::bx b1 (C3 r) 126::pbx pb pheldStyle plr pl.length pat::(vo A0 26 plr pl)++([]))) (post:=[]) B0y (fun _=>rfl) (fun _=>rfl) rfl rfl rfl rfl rfl rfl rfl rfl (by first|rfl|(try dsimp only;simp only [List.append_nil,List.cons_append,List.nil_append,List.append_assoc])) (B0 0 rfl) hk8 (by first|omega|(simp<;>omega)) (by first|omega|(simp<;>omega))) (fun ⟨r10,hr11⟩=>(zbx b2::bx b1 (C3 r) 126::pbx pb pheldStyle plr pl.length pat::(vo A0 26 plr pl)++((vo A0 26 r10 (y4++([{Act.zero with kind:=34,n:=(IntKind.i64.wrap (r.many - (1:Int)))}]:List Act)))++([])))) (fun ⟨r10,hr11⟩=>by first|rfl|(try dsimp only;simp only [List.append_nil,List.cons_append,List.nil_append,List.append_assoc]))) (fun ⟨r10,hr11⟩=>(mc [[zbx b2],[bx b1 (C3 r) 126],[pbx pb pheldStyle plr pl.length pat],vo A0 26 plr pl,vo A0 26 r10 (y4++([{Act.zero with kind:=34,n:=(IntKind.i64.wrap (r.many - (1:Int)))}]:List Act))] [true,true,true,true,false] (by first|rfl|simp) (by first|rfl|(simp only [List.length_set]<;>rfl)))) (fun ⟨r10,hr11⟩=>(A2.pick [1,2,3,4,5,6] rfl)) fun ⟨r10,hr11⟩=>?_
 have:=VOk.le hr11
 have:=VOk.cap hr11
 refine zhk 12 (zml 15 8191) rfl (A1l (cs:=[.slice (va r10.q) ((y4++([{Act.zero with kind:=34,n:=(IntKind.i64.wrap (r.many - (1:Int)))}]:List Act)).length) r10.k,iv r.sign.sty.attr,iv r.sign.sty.under,iv r.sign.sty.fore.kind,iv r.sign.sty.fore.n,iv r.sign.sty.back.kind,iv r.sign.sty.back.n,iv r.sign.sty.line.kind,iv r.sign.sty.line.n,iv r.til]) rfl rfl (by kernel_rfl)) ?_
 refine zho 13 (bx b1 (C3 r) 126::pbx pb pheldStyle plr pl.length pat::(vo A0 26 plr pl)++([])) (zml 15 16383) rfl (N4 (us:=[.slice (va r10.q) ((y4++([{Act.zero with kind:=34,n:=(IntKind.i64.wrap (r.many - (1:Int)))}]:List Act)).length) r10.k,iv r.sign.sty.attr,iv r.sign.sty.under,iv r.sign.sty.fore.kind,iv r.sign.sty.fore.n,iv r.sign.sty.back.kind,iv r.sign.sty.back.n,iv r.sign.sty.line.kind,iv r.sign.sty.line.n,iv r.til]) (cs':=[.slice (va r10.q) ((y4++([{Act.zero with kind:=34,n:=(IntKind.i64.wrap (r.many - (1:Int)))}]:List Act)).length) r10.k,iv r.sign.sty.attr,iv r.sign.sty.under,iv r.sign.sty.fore.kind,iv r.sign.sty.fore.n,iv r.sign.sty.back.kind,iv r.sign.sty.back.n,iv r.sign.sty.line.kind,iv r.sign.sty.line.n,iv r.til]) B4a rfl rfl rfl 0 rfl rfl rfl rfl rfl rfl) (fun _=>(mc [[bx b2 [.slice (va r10.q) ((y4++([{Act.zero with kind:=34,n:=(IntKind.i64.wrap (r.many - (1:Int)))}]:List Act)).length) r10.k,iv r.sign.sty.attr,iv r.sign.sty.under,iv r.sign.sty.fore.kind,iv r.sign.sty.fore.n,iv r.sign.sty.back.kind,iv r.sign.sty.back.n,iv r.sign.sty.line.kind,iv r.sign.sty.line.n,iv r.til] 176],[bx b1 (C3 r) 126],[pbx pb pheldStyle plr pl.length pat],vo A0 26 plr pl,vo A0 26 r10 (y4++([{Act.zero with kind:=34,n:=(IntKind.i64.wrap (r.many - (1:Int)))}]:List Act))] [false,true,true,true,false] (by first|rfl|simp) (by first|rfl|(simp only [List.length_set]<;>rfl)))) (fun _=>(A2.pick [1,2,3,4,5,6] rfl)) fun _=>?_
 refine zhp [14] 0 (zml 15 32767) [(7,bv true)] ?_
 refine A4z (by kernel_rfl) ?_
 subst hR
 refine B5 ?_
 exact zer hr hD (A5j rfl (F5 (us:=[.slice (va r10.q) ((y4++([{Act.zero with kind:=34,n:=(IntKind.i64.wrap (r.many - (1:Int)))}]:List Act)).length) r10.k,iv r.sign.sty.attr,iv r.sign.sty.under,iv r.sign.sty.fore.kind,iv r.sign.sty.fore.n,iv r.sign.sty.back.kind,iv r.sign.sty.back.n,iv r.sign.sty.line.kind,iv r.sign.sty.line.n,iv r.til]) B4a rfl 0 rfl rfl rfl) (C1 rfl)) ⟨r10,hr11⟩ (mc [[bx b2 [.slice (va r10.q) ((y4++([{Act.zero with kind:=34,n:=(IntKind.i64.wrap (r.many - (1:Int)))}]:List Act)).length) r10.k,iv r.sign.sty.attr,iv r.sign.sty.under,iv r.sign.sty.fore.kind,iv r.sign.sty.fore.n,iv r.sign.sty.back.kind,iv r.sign.sty.back.n,iv r.sign.sty.line.kind,iv r.sign.sty.line.n,iv r.til] 176],[bx b1 (C3 r) 126],[pbx pb pheldStyle plr pl.length pat],vo A0 26 plr pl,vo A0 26 r10 (y4++([{Act.zero with kind:=34,n:=(IntKind.i64.wrap (r.many - (1:Int)))}]:List Act))] [false,false,true,true,true] (by first|rfl|simp) (by first|rfl|(simp only [List.length_set]<;>rfl))) fn0
def J5 (pheldStyle:Sty) (pl:List Act) (pat:Int) (r:Prn) (last:Bool):List Act×Sty×Int×Bool :=
 (bif (((!(Z9 r.sign))||(!decide (r.sign.base=32)))||(!(decide (r.sign.sty={Sty.zero with back:=r.sign.sty.back})))) then (([]:List Act),(⟨0,0,(⟨0,0⟩:Col),(⟨0,0⟩:Col),(⟨0,0⟩:Col)⟩:Sty),0,false) else (bif last then (((A1 pheldStyle pl pat ({pheldStyle with back:=r.sign.sty.back}))++([{Act.zero with kind:=30,n:=r.many}]:List Act)),(⟨pheldStyle.attr,pheldStyle.under,pheldStyle.fore,r.sign.sty.back,pheldStyle.line⟩:Sty),r.at_,true) else ((((A1 pheldStyle pl pat ({pheldStyle with back:=r.sign.sty.back}))++([{Act.zero with kind:=30,n:=r.many}]:List Act))++([{Act.zero with kind:=20,n:=2,m:=r.many}]:List Act)),(⟨pheldStyle.attr,pheldStyle.under,pheldStyle.fore,r.sign.sty.back,pheldStyle.line⟩:Sty),r.til,true)))
theorem A0k (pheldStyle:Sty) (pl:List Act) (pat:Int) (r:Prn) (last:Bool):(J5 pheldStyle pl pat r last).1.length≤322∧∀ a ∈ (J5 pheldStyle pl pat r last).1,a.text.length≤100000000:=by
 unfold J5
 have hs:=N6 pheldStyle pl pat ({pheldStyle with back:=r.sign.sty.back})
 simp only [Bool.cond_eq_ite]
 repeat' split
 ·exact ⟨Nat.zero_le _,fun a ha=>by cases ha⟩
 ·exact ⟨by simp only [List.length_append,List.length_cons,List.length_nil];omega,C8g hs.2.2 rfl⟩
 ·exact ⟨by simp only [List.length_append,List.length_cons,List.length_nil];omega,C8g (C8g hs.2.2 rfl) rfl⟩
theorem B1u (pheldStyle:Sty) (pl:List Act) (pat:Int) (r:Prn) (last:Bool) (pb:Nat) (plr:VR) (hokplr:VOk 6 pl.length plr) (hmy:0≤r.many∧r.many≤100) (R:List Act×Sty×Int×Bool) (hR:J5 pheldStyle pl pat r last=R):Con Tryz.prog 114 [pt pb 0,ag (C3 r),bv last] (pbx pb pheldStyle plr pl.length pat::(vo A0 26 plr pl)++([])) [A1y,A1z,M9,M1,I6,N9] ({r:VR // VOk 6 R.1.length r}) (fun x=>.tuple #[ag [.slice (va x.1.q) R.1.length x.1.k,iv R.2.1.attr,iv R.2.1.under,iv R.2.1.fore.kind,iv R.2.1.fore.n,iv R.2.1.back.kind,iv R.2.1.back.n,iv R.2.1.line.kind,iv R.2.1.line.n,iv R.2.2.1],bv R.2.2.2]) (fun x=>(pbx pb pheldStyle plr pl.length pat::(vo A0 26 plr pl)++((vo A0 26 x.1 R.1)++([])))) (fun x=>[]):=by
 refine zco Tryz.func114 [(0,pt pb 0),(1,ag (C3 r)),(2,bv last)] fun X hX hr hD=>?_
 replace hR:=(J5.eq_1 ..).symm.trans hR
 have:=VOk.le hokplr
 refine sr 3 rfl (B9a 3 0 [] (fun b1 b2=>[(4,pt b1 0),(6,pt b2 0)]) (fun b1 b2=>(zbx b2::bx b1 (C3 r) 126::pbx pb pheldStyle plr pl.length pat::(vo A0 26 plr pl)++([]))) (fun b1 b2=>(ie (A8 (sr 21 rfl (zrl 2 19 [1] [(11,ag (L9 r.sign))] (zca (B8l r.sign _ rfl) fn0 (ip' 2 16 [(14,bv (!(Z9 r.sign)))] ?_))))))))
 refine zio 5 11 14 19 (!decide (r.sign.base=32)) (fun g3=>?_) ?_
 ·refine zrl 5 0 [1] [(19,bv (!decide (r.sign.base=32)))] ?_
  exact A7 (U9 2 14 19 g3 A2.refl (mc [[zbx b2],[bx b1 (C3 r) 126],[pbx pb pheldStyle plr pl.length pat],vo A0 26 plr pl] [true,true,true,true] (by first|rfl|simp) (by first|rfl|(simp only [List.length_set]<;>rfl))) rfl rfl rfl rfl rfl)
 refine ip' 1 10 [(20,bv ((!(Z9 r.sign))||(!decide (r.sign.base=32))))] ?_
 refine zio 10 0 20 30 (!(decide (r.sign.sty={Sty.zero with back:=r.sign.sty.back}))) (fun g4=>?_) ?_
 ·have g4p:=g4;try simp at g4p
  refine zrl 8 2 [1,1] [(23,ag (A4 r.sign.sty)),(28,ag (A4 ({Sty.zero with back:=r.sign.sty.back})))] (ix rfl (V8 (a:=r.sign.sty) (b:={Sty.zero with back:=r.sign.sty.back}) D0r rfl rfl rfl) (ip' 1 0 [(30,bv (!(decide (r.sign.sty={Sty.zero with back:=r.sign.sty.back}))))] ?_))
  exact A7 (U9 5 20 30 g4 A2.refl (mc [[zbx b2],[bx b1 (C3 r) 126],[pbx pb pheldStyle plr pl.length pat],vo A0 26 plr pl] [true,true,true,true] (by first|rfl|simp) (by first|rfl|(simp only [List.length_set]<;>rfl))) rfl rfl rfl rfl rfl)
 refine ie ?_
 refine zjb rfl hR ?_ ?_<;>clear hR<;>intro hR h5
 ·have h5p:=h5;try simp at h5p
  refine sr 3 rfl (zrg 3 0 [0] [(7,bv false)] (zbx b2::bx b1 (C3 r) 126::pbx pb pheldStyle plr pl.length pat::(vo A0 26 plr pl)++([])) ?_)
  subst hR
  refine ie (B5 ?_)
  exact zer hr hD (A5j rfl (F5 (us:=[.slice none 0 0,iv 0,iv 0,iv 0,iv 0,iv 0,iv 0,iv 0,iv 0,iv 0]) B4a rfl 0 rfl rfl rfl) (C1 rfl)) ⟨VR.nil,VOk.nil⟩ (mc [[zbx b2],[bx b1 (C3 r) 126],[pbx pb pheldStyle plr pl.length pat],vo A0 26 plr pl,vo A0 26 VR.nil ([]:List Act)] [false,false,true,true,true] (by first|rfl|simp) (by first|rfl|(simp only [List.length_set]<;>rfl))) fn0
 have h5p:=h5;try simp at h5p
 refine B1 (nx (sr 7 rfl (M8 7 0 [2,0] (fun b6=>[(8,pt b6 0)]) (fun b6=>(bx b6 (A4 pheldStyle) 67::zbx b2::bx b1 (C3 r) 126::pbx pb pheldStyle plr pl.length pat::(vo A0 26 plr pl)++([]))) (fun b6=>(ie (sr 6 rfl (zrg 6 0 [2,0] [] (bx b6 (A4 ({pheldStyle with back:=r.sign.sty.back})) 67::zbx b2::bx b1 (C3 r) 126::pbx pb pheldStyle plr pl.length pat::(vo A0 26 plr pl)++([])) (ie ?_))))))))
 refine sh 9 [(9,[bx b6 (A4 ({pheldStyle with back:=r.sign.sty.back})) 67]),(9,[zbx b2]),(9,[bx b1 (C3 r) 126]),(9,[pbx pb pheldStyle plr pl.length pat]),(9,vo A0 26 plr pl)] [A1y,A1z,M9,M1,I6,N9] (bx b6 (A4 ({pheldStyle with back:=r.sign.sty.back})) 67::zbx b2::bx b1 (C3 r) 126::pbx pb pheldStyle plr pl.length pat::(vo A0 26 plr pl)++([])) (zml 9 0) (by kernel_rfl) rfl (by kernel_rfl) (by kernel_rfl) (by kernel_rfl) (mc [[bx b6 (A4 ({pheldStyle with back:=r.sign.sty.back})) 67],[zbx b2],[bx b1 (C3 r) 126],[pbx pb pheldStyle plr pl.length pat],vo A0 26 plr pl] [true,true,true,true,true] (by first|rfl|simp) (by first|rfl|(simp only [List.length_set]<;>rfl))) A2.refl ?_
 refine zhp [0,3] 7 (zml 9 9) [(42,pt pb 0),(45,pt b1 12)] ?_
 refine zhl 1 (bx b6 (A4 ({pheldStyle with back:=r.sign.sty.back})) 67::zbx b2::bx b1 (C3 r) 126::pbx pb pheldStyle plr pl.length pat::(vo A0 26 plr pl)++([])) (zml 9 11) rfl (F6 (us:=A4 ({pheldStyle with back:=r.sign.sty.back})) B5d rfl rfl 0 rfl rfl rfl) ?_
 refine zhl 4 (bx b6 (A4 ({pheldStyle with back:=r.sign.sty.back})) 67::zbx b2::bx b1 (C3 r) 126::pbx pb pheldStyle plr pl.length pat::(vo A0 26 plr pl)++([])) (zml 9 27) rfl (B2 (v:=iv r.many) ty3 rfl rfl 2 rfl rfl) ?_
 refine zhk 5 (zml 9 59) rfl (A1l (cs:=A0 ({Act.zero with kind:=30,n:=r.many})) rfl rfl (by kernel_rfl)) ?_
 refine A8z 2 6 (by kernel_rfl) ?_ ?_
 ·refine B3s 2 (bx b6 (A4 ({pheldStyle with back:=r.sign.sty.back})) 67::zbx b2::bx b1 (C3 r) 126::pbx pb pheldStyle plr pl.length pat::(vo A0 26 plr pl)++([])) (zml 9 63) rfl rfl rfl (by kernel_rfl) (by kernel_rfl) (by kernel_rfl) (G8 (L2:=[bx b6 (A4 ({pheldStyle with back:=r.sign.sty.back})) 67,zbx b2,bx b1 (C3 r) 126]) (Y3 pheldStyle pl pat ({pheldStyle with back:=r.sign.sty.back}) pb plr hokplr _ rfl) rfl rfl rfl rfl rfl A2.refl (F8 [[bx b6 (A4 ({pheldStyle with back:=r.sign.sty.back})) 67],[zbx b2],[bx b1 (C3 r) 126],[pbx pb pheldStyle plr pl.length pat],vo A0 26 plr pl] [3,4,0,1,2] 5 rfl (by decide) rfl [[pbx pb pheldStyle plr pl.length pat],vo A0 26 plr pl,[bx b6 (A4 ({pheldStyle with back:=r.sign.sty.back})) 67],[zbx b2],[bx b1 (C3 r) 126]] rfl (by first|rfl|simp)) (fun ⟨r7,hk8⟩=>(bx b6 (A4 ({pheldStyle with back:=r.sign.sty.back})) 67::zbx b2::bx b1 (C3 r) 126::pbx pb pheldStyle plr pl.length pat::(vo A0 26 plr pl)++((vo A0 26 r7 (A1 pheldStyle pl pat ({pheldStyle with back:=r.sign.sty.back})))++([])))) (fun ⟨r7,hk8⟩=>F8 [[pbx pb pheldStyle plr pl.length pat],vo A0 26 plr pl,vo A0 26 r7 (A1 pheldStyle pl pat ({pheldStyle with back:=r.sign.sty.back})),[bx b6 (A4 ({pheldStyle with back:=r.sign.sty.back})) 67],[zbx b2],[bx b1 (C3 r) 126]] [3,4,5,0,1,2] 6 rfl (by decide) (by first|rfl|simp) [[bx b6 (A4 ({pheldStyle with back:=r.sign.sty.back})) 67],[zbx b2],[bx b1 (C3 r) 126],[pbx pb pheldStyle plr pl.length pat],vo A0 26 plr pl,vo A0 26 r7 (A1 pheldStyle pl pat ({pheldStyle with back:=r.sign.sty.back}))] rfl (by first|rfl|simp))) (fun ⟨r7,hk8⟩=>(mc [[bx b6 (A4 ({pheldStyle with back:=r.sign.sty.back})) 67],[zbx b2],[bx b1 (C3 r) 126],[pbx pb pheldStyle plr pl.length pat],vo A0 26 plr pl,vo A0 26 r7 (A1 pheldStyle pl pat ({pheldStyle with back:=r.sign.sty.back}))] [true,true,true,true,true,false] (by first|rfl|simp) (by first|rfl|(simp only [List.length_set]<;>rfl)))) (fun ⟨r7,hk8⟩=>A2.refl) fun ⟨r7,hk8⟩=>?_
  have:=VOk.le hk8
  have:=VOk.cap hk8
  have:=N6 pheldStyle pl pat ({pheldStyle with back:=r.sign.sty.back})
  obtain ⟨_,_,_⟩:=this
  refine zho 6 (bx b6 (A4 ({pheldStyle with back:=r.sign.sty.back})) 67::zbx b2::bx b1 (C3 r) 126::pbx pb pheldStyle plr pl.length pat::(vo A0 26 plr pl)++([])) (zml 9 127) rfl (C0 (c:=A0) (xs:=([{Act.zero with kind:=30,n:=r.many}]:List Act)) A1n rfl rfl rfl (by kernel_rfl)) (fun b9=>(mc [[bx b6 (A4 ({pheldStyle with back:=r.sign.sty.back})) 67],[zbx b2],[bx b1 (C3 r) 126],[pbx pb pheldStyle plr pl.length pat],vo A0 26 plr pl,vo A0 26 r7 (A1 pheldStyle pl pat ({pheldStyle with back:=r.sign.sty.back}))] [true,true,true,true,true,false] (by first|rfl|simp) (by first|rfl|(simp only [List.length_set]<;>rfl)))) (fun b9=>(A2.pick [1,2,3,4,5,6] rfl)) fun b9=>?_
  have:([{Act.zero with kind:=30,n:=r.many}]:List Act).length=1:=rfl
  refine zho 7 (bx b6 (A4 ({pheldStyle with back:=r.sign.sty.back})) 67::zbx b2::bx b1 (C3 r) 126::pbx pb pheldStyle plr pl.length pat::(vo A0 26 plr pl)++([])) (zml 9 255) rfl (Tri.own (X9 (f:=A0) (r:=r7) (xs:=(A1 pheldStyle pl pat ({pheldStyle with back:=r.sign.sty.back}))) (ys:=([{Act.zero with kind:=30,n:=r.many}]:List Act)) (pre:=(bx b6 (A4 ({pheldStyle with back:=r.sign.sty.back})) 67::zbx b2::bx b1 (C3 r) 126::pbx pb pheldStyle plr pl.length pat::(vo A0 26 plr pl)++([]))) (post:=[]) B0y (fun _=>rfl) (fun _=>rfl) rfl rfl rfl rfl rfl rfl rfl rfl (by first|rfl|(try dsimp only;simp only [List.append_nil,List.cons_append,List.nil_append,List.append_assoc])) (B0 0 rfl) hk8 (by first|omega|(simp<;>omega)) (by first|omega|(simp<;>omega))) (fun ⟨r10,hr11⟩=>(bx b6 (A4 ({pheldStyle with back:=r.sign.sty.back})) 67::zbx b2::bx b1 (C3 r) 126::pbx pb pheldStyle plr pl.length pat::(vo A0 26 plr pl)++((vo A0 26 r10 ((A1 pheldStyle pl pat ({pheldStyle with back:=r.sign.sty.back}))++([{Act.zero with kind:=30,n:=r.many}]:List Act)))++([])))) (fun ⟨r10,hr11⟩=>by first|rfl|(try dsimp only;simp only [List.append_nil,List.cons_append,List.nil_append,List.append_assoc]))) (fun ⟨r10,hr11⟩=>(mc [[bx b6 (A4 ({pheldStyle with back:=r.sign.sty.back})) 67],[zbx b2],[bx b1 (C3 r) 126],[pbx pb pheldStyle plr pl.length pat],vo A0 26 plr pl,vo A0 26 r10 ((A1 pheldStyle pl pat ({pheldStyle with back:=r.sign.sty.back}))++([{Act.zero with kind:=30,n:=r.many}]:List Act))] [true,true,true,true,true,false] (by first|rfl|simp) (by first|rfl|(simp only [List.length_set]<;>rfl)))) (fun ⟨r10,hr11⟩=>(A2.pick [1,2,3,4,5,6] rfl)) fun ⟨r10,hr11⟩=>?_
  have:=VOk.le hr11
  have:=VOk.cap hr11
  refine zhp [8] 0 (zml 9 511) [(9,.slice (va r10.q) (((A1 pheldStyle pl pat ({pheldStyle with back:=r.sign.sty.back}))++([{Act.zero with kind:=30,n:=r.many}]:List Act)).length) r10.k)] ?_
  refine A4z (by kernel_rfl) ?_
  refine A8 (sr 1 rfl (ip' 1 0 [(50,bv last)] ?_))
  refine ie ?_
  refine zjb rfl hR ?_ ?_<;>clear hR<;>intro hR h12
  ·refine sr 7 rfl (zrg 7 0 [0,2,1] [(7,bv true)] (bx b6 (A4 ({pheldStyle with back:=r.sign.sty.back})) 67::bx b2 [.slice (va r10.q) (((A1 pheldStyle pl pat ({pheldStyle with back:=r.sign.sty.back}))++([{Act.zero with kind:=30,n:=r.many}]:List Act)).length) r10.k,iv pheldStyle.attr,iv pheldStyle.under,iv pheldStyle.fore.kind,iv pheldStyle.fore.n,iv r.sign.sty.back.kind,iv r.sign.sty.back.n,iv pheldStyle.line.kind,iv pheldStyle.line.n,iv r.at_] 176::bx b1 (C3 r) 126::pbx pb pheldStyle plr pl.length pat::(vo A0 26 plr pl)++((vo A0 26 r10 ((A1 pheldStyle pl pat ({pheldStyle with back:=r.sign.sty.back}))++([{Act.zero with kind:=30,n:=r.many}]:List Act)))++([]))) ?_)
   subst hR
   refine ie (B5 ?_)
   exact zer hr hD (A5j rfl (F5 (us:=[.slice (va r10.q) (((A1 pheldStyle pl pat ({pheldStyle with back:=r.sign.sty.back}))++([{Act.zero with kind:=30,n:=r.many}]:List Act)).length) r10.k,iv pheldStyle.attr,iv pheldStyle.under,iv pheldStyle.fore.kind,iv pheldStyle.fore.n,iv r.sign.sty.back.kind,iv r.sign.sty.back.n,iv pheldStyle.line.kind,iv pheldStyle.line.n,iv r.at_]) B4a rfl 1 rfl rfl rfl) (C1 rfl)) ⟨r10,hr11⟩ (mc [[bx b6 (A4 ({pheldStyle with back:=r.sign.sty.back})) 67],[bx b2 [.slice (va r10.q) (((A1 pheldStyle pl pat ({pheldStyle with back:=r.sign.sty.back}))++([{Act.zero with kind:=30,n:=r.many}]:List Act)).length) r10.k,iv pheldStyle.attr,iv pheldStyle.under,iv pheldStyle.fore.kind,iv pheldStyle.fore.n,iv r.sign.sty.back.kind,iv r.sign.sty.back.n,iv pheldStyle.line.kind,iv pheldStyle.line.n,iv r.at_] 176],[bx b1 (C3 r) 126],[pbx pb pheldStyle plr pl.length pat],vo A0 26 plr pl,vo A0 26 r10 ((A1 pheldStyle pl pat ({pheldStyle with back:=r.sign.sty.back}))++([{Act.zero with kind:=30,n:=r.many}]:List Act))] [false,false,false,true,true,true] (by first|rfl|simp) (by first|rfl|(simp only [List.length_set]<;>rfl))) fn0
  refine B1 (nx ?_)
  refine sh 12 [(12,[bx b6 (A4 ({pheldStyle with back:=r.sign.sty.back})) 67]),(10,[zbx b2]),(12,[bx b1 (C3 r) 126]),(12,[pbx pb pheldStyle plr pl.length pat]),(12,vo A0 26 plr pl),(5,vo A0 26 r10 ((A1 pheldStyle pl pat ({pheldStyle with back:=r.sign.sty.back}))++([{Act.zero with kind:=30,n:=r.many}]:List Act)))] [sl A0 (some ⟨b9,0,none⟩) ([{Act.zero with kind:=30,n:=r.many}]:List Act),A1y,A1z,M9,M1,I6,N9] (bx b6 (A4 ({pheldStyle with back:=r.sign.sty.back})) 67::zbx b2::bx b1 (C3 r) 126::pbx pb pheldStyle plr pl.length pat::(vo A0 26 plr pl)++((vo A0 26 r10 ((A1 pheldStyle pl pat ({pheldStyle with back:=r.sign.sty.back}))++([{Act.zero with kind:=30,n:=r.many}]:List Act)))++([]))) (zml 12 0) (by kernel_rfl) rfl (by kernel_rfl) (by kernel_rfl) (by kernel_rfl) (mc [[bx b6 (A4 ({pheldStyle with back:=r.sign.sty.back})) 67],[zbx b2],[bx b1 (C3 r) 126],[pbx pb pheldStyle plr pl.length pat],vo A0 26 plr pl,vo A0 26 r10 ((A1 pheldStyle pl pat ({pheldStyle with back:=r.sign.sty.back}))++([{Act.zero with kind:=30,n:=r.many}]:List Act))] [true,true,true,true,true,true] (by first|rfl|simp) (by first|rfl|(simp only [List.length_set]<;>rfl))) A2.refl ?_
  refine zhp [0,1,7] 9 (zml 12 131) [(56,.slice (va r10.q) (((A1 pheldStyle pl pat ({pheldStyle with back:=r.sign.sty.back}))++([{Act.zero with kind:=30,n:=r.many}]:List Act)).length) r10.k),(57,pt b1 12),(63,pt b1 14)] ?_
  refine zhl 2 (bx b6 (A4 ({pheldStyle with back:=r.sign.sty.back})) 67::zbx b2::bx b1 (C3 r) 126::pbx pb pheldStyle plr pl.length pat::(vo A0 26 plr pl)++([])) (zml 12 135) rfl (B2 (v:=iv r.many) ty3 rfl rfl 2 rfl rfl) ?_
  refine zhk 3 (zml 12 143) rfl (A1l (cs:=A0 ({Act.zero with kind:=20,n:=2,m:=r.many})) rfl rfl (by kernel_rfl)) (zhl 6 (bx b6 (A4 ({pheldStyle with back:=r.sign.sty.back})) 67::zbx b2::bx b1 (C3 r) 126::pbx pb pheldStyle plr pl.length pat::(vo A0 26 plr pl)++([])) (zml 12 207) rfl (F6 (us:=A4 ({pheldStyle with back:=r.sign.sty.back})) B5d rfl rfl 0 rfl rfl rfl) ?_)
  refine zhl 8 (bx b6 (A4 ({pheldStyle with back:=r.sign.sty.back})) 67::zbx b2::bx b1 (C3 r) 126::pbx pb pheldStyle plr pl.length pat::(vo A0 26 plr pl)++([])) (zml 12 463) rfl (B2 (v:=iv r.til) ty3 rfl rfl 2 rfl rfl) ?_
  refine zho 4 (bx b6 (A4 ({pheldStyle with back:=r.sign.sty.back})) 67::zbx b2::bx b1 (C3 r) 126::pbx pb pheldStyle plr pl.length pat::(vo A0 26 plr pl)++((vo A0 26 r10 ((A1 pheldStyle pl pat ({pheldStyle with back:=r.sign.sty.back}))++([{Act.zero with kind:=30,n:=r.many}]:List Act)))++([]))) (zml 12 479) rfl (C0 (c:=A0) (xs:=([{Act.zero with kind:=20,n:=2,m:=r.many}]:List Act)) A1n rfl rfl rfl (by kernel_rfl)) (fun b13=>(mc [[bx b6 (A4 ({pheldStyle with back:=r.sign.sty.back})) 67],[zbx b2],[bx b1 (C3 r) 126],[pbx pb pheldStyle plr pl.length pat],vo A0 26 plr pl,vo A0 26 r10 ((A1 pheldStyle pl pat ({pheldStyle with back:=r.sign.sty.back}))++([{Act.zero with kind:=30,n:=r.many}]:List Act))] [true,true,true,true,true,true] (by first|rfl|simp) (by first|rfl|(simp only [List.length_set]<;>rfl)))) (fun b13=>(A2.pick [1,2,3,4,5,6,7] rfl)) fun b13=>?_
  have:([{Act.zero with kind:=20,n:=2,m:=r.many}]:List Act).length=1:=rfl
  refine zho 5 (bx b6 (A4 ({pheldStyle with back:=r.sign.sty.back})) 67::zbx b2::bx b1 (C3 r) 126::pbx pb pheldStyle plr pl.length pat::(vo A0 26 plr pl)++([])) (zml 12 511) rfl (Tri.own (X9 (f:=A0) (r:=r10) (xs:=((A1 pheldStyle pl pat ({pheldStyle with back:=r.sign.sty.back}))++([{Act.zero with kind:=30,n:=r.many}]:List Act))) (ys:=([{Act.zero with kind:=20,n:=2,m:=r.many}]:List Act)) (pre:=(bx b6 (A4 ({pheldStyle with back:=r.sign.sty.back})) 67::zbx b2::bx b1 (C3 r) 126::pbx pb pheldStyle plr pl.length pat::(vo A0 26 plr pl)++([]))) (post:=[]) B0y (fun _=>rfl) (fun _=>rfl) rfl rfl rfl rfl rfl rfl rfl rfl (by first|rfl|(try dsimp only;simp only [List.append_nil,List.cons_append,List.nil_append,List.append_assoc])) (B0 0 rfl) hr11 (by first|omega|(simp<;>omega)) (by first|omega|(simp<;>omega))) (fun ⟨r14,hr15⟩=>(bx b6 (A4 ({pheldStyle with back:=r.sign.sty.back})) 67::zbx b2::bx b1 (C3 r) 126::pbx pb pheldStyle plr pl.length pat::(vo A0 26 plr pl)++((vo A0 26 r14 (((A1 pheldStyle pl pat ({pheldStyle with back:=r.sign.sty.back}))++([{Act.zero with kind:=30,n:=r.many}]:List Act))++([{Act.zero with kind:=20,n:=2,m:=r.many}]:List Act)))++([])))) (fun ⟨r14,hr15⟩=>by first|rfl|(try dsimp only;simp only [List.append_nil,List.cons_append,List.nil_append,List.append_assoc]))) (fun ⟨r14,hr15⟩=>(mc [[bx b6 (A4 ({pheldStyle with back:=r.sign.sty.back})) 67],[zbx b2],[bx b1 (C3 r) 126],[pbx pb pheldStyle plr pl.length pat],vo A0 26 plr pl,vo A0 26 r14 (((A1 pheldStyle pl pat ({pheldStyle with back:=r.sign.sty.back}))++([{Act.zero with kind:=30,n:=r.many}]:List Act))++([{Act.zero with kind:=20,n:=2,m:=r.many}]:List Act))] [true,true,true,true,true,false] (by first|rfl|simp) (by first|rfl|(simp only [List.length_set]<;>rfl)))) (fun ⟨r14,hr15⟩=>(A2.pick [1,2,3,4,5,6,7] rfl)) fun ⟨r14,hr15⟩=>?_
  have:=VOk.le hr15
  have:=VOk.cap hr15
  refine zhk 9 (zml 12 1023) rfl (A1l (cs:=[.slice (va r14.q) ((((A1 pheldStyle pl pat ({pheldStyle with back:=r.sign.sty.back}))++([{Act.zero with kind:=30,n:=r.many}]:List Act))++([{Act.zero with kind:=20,n:=2,m:=r.many}]:List Act)).length) r14.k,iv pheldStyle.attr,iv pheldStyle.under,iv pheldStyle.fore.kind,iv pheldStyle.fore.n,iv r.sign.sty.back.kind,iv r.sign.sty.back.n,iv pheldStyle.line.kind,iv pheldStyle.line.n,iv r.til]) rfl rfl (by kernel_rfl)) ?_
  refine zho 10 (bx b6 (A4 ({pheldStyle with back:=r.sign.sty.back})) 67::bx b1 (C3 r) 126::pbx pb pheldStyle plr pl.length pat::(vo A0 26 plr pl)++([])) (zml 12 2047) rfl (N4 (us:=[.slice (va r14.q) ((((A1 pheldStyle pl pat ({pheldStyle with back:=r.sign.sty.back}))++([{Act.zero with kind:=30,n:=r.many}]:List Act))++([{Act.zero with kind:=20,n:=2,m:=r.many}]:List Act)).length) r14.k,iv pheldStyle.attr,iv pheldStyle.under,iv pheldStyle.fore.kind,iv pheldStyle.fore.n,iv r.sign.sty.back.kind,iv r.sign.sty.back.n,iv pheldStyle.line.kind,iv pheldStyle.line.n,iv r.til]) (cs':=[.slice (va r14.q) ((((A1 pheldStyle pl pat ({pheldStyle with back:=r.sign.sty.back}))++([{Act.zero with kind:=30,n:=r.many}]:List Act))++([{Act.zero with kind:=20,n:=2,m:=r.many}]:List Act)).length) r14.k,iv pheldStyle.attr,iv pheldStyle.under,iv pheldStyle.fore.kind,iv pheldStyle.fore.n,iv r.sign.sty.back.kind,iv r.sign.sty.back.n,iv pheldStyle.line.kind,iv pheldStyle.line.n,iv r.til]) B4a rfl rfl rfl 1 rfl rfl rfl rfl rfl rfl) (fun _=>(mc [[bx b6 (A4 ({pheldStyle with back:=r.sign.sty.back})) 67],[bx b2 [.slice (va r14.q) ((((A1 pheldStyle pl pat ({pheldStyle with back:=r.sign.sty.back}))++([{Act.zero with kind:=30,n:=r.many}]:List Act))++([{Act.zero with kind:=20,n:=2,m:=r.many}]:List Act)).length) r14.k,iv pheldStyle.attr,iv pheldStyle.under,iv pheldStyle.fore.kind,iv pheldStyle.fore.n,iv r.sign.sty.back.kind,iv r.sign.sty.back.n,iv pheldStyle.line.kind,iv pheldStyle.line.n,iv r.til] 176],[bx b1 (C3 r) 126],[pbx pb pheldStyle plr pl.length pat],vo A0 26 plr pl,vo A0 26 r14 (((A1 pheldStyle pl pat ({pheldStyle with back:=r.sign.sty.back}))++([{Act.zero with kind:=30,n:=r.many}]:List Act))++([{Act.zero with kind:=20,n:=2,m:=r.many}]:List Act))] [true,false,true,true,true,false] (by first|rfl|simp) (by first|rfl|(simp only [List.length_set]<;>rfl)))) (fun _=>(A2.pick [1,2,3,4,5,6,7] rfl)) fun _=>?_
  refine zhp [11] 0 (zml 12 4095) [(7,bv true)] ?_
  refine A4z (by kernel_rfl) ?_
  subst hR
  refine B5 ?_
  exact zer hr hD (A5j rfl (F5 (us:=[.slice (va r14.q) ((((A1 pheldStyle pl pat ({pheldStyle with back:=r.sign.sty.back}))++([{Act.zero with kind:=30,n:=r.many}]:List Act))++([{Act.zero with kind:=20,n:=2,m:=r.many}]:List Act)).length) r14.k,iv pheldStyle.attr,iv pheldStyle.under,iv pheldStyle.fore.kind,iv pheldStyle.fore.n,iv r.sign.sty.back.kind,iv r.sign.sty.back.n,iv pheldStyle.line.kind,iv pheldStyle.line.n,iv r.til]) B4a rfl 1 rfl rfl rfl) (C1 rfl)) ⟨r14,hr15⟩ (mc [[bx b6 (A4 ({pheldStyle with back:=r.sign.sty.back})) 67],[bx b2 [.slice (va r14.q) ((((A1 pheldStyle pl pat ({pheldStyle with back:=r.sign.sty.back}))++([{Act.zero with kind:=30,n:=r.many}]:List Act))++([{Act.zero with kind:=20,n:=2,m:=r.many}]:List Act)).length) r14.k,iv pheldStyle.attr,iv pheldStyle.under,iv pheldStyle.fore.kind,iv pheldStyle.fore.n,iv r.sign.sty.back.kind,iv r.sign.sty.back.n,iv pheldStyle.line.kind,iv pheldStyle.line.n,iv r.til] 176],[bx b1 (C3 r) 126],[pbx pb pheldStyle plr pl.length pat],vo A0 26 plr pl,vo A0 26 r14 (((A1 pheldStyle pl pat ({pheldStyle with back:=r.sign.sty.back}))++([{Act.zero with kind:=30,n:=r.many}]:List Act))++([{Act.zero with kind:=20,n:=2,m:=r.many}]:List Act))] [false,false,false,true,true,true] (by first|rfl|simp) (by first|rfl|(simp only [List.length_set]<;>rfl))) fn0
 ·refine B3s 6 (bx b6 (A4 ({pheldStyle with back:=r.sign.sty.back})) 67::zbx b2::bx b1 (C3 r) 126::pbx pb pheldStyle plr pl.length pat::(vo A0 26 plr pl)++([])) (zml 9 123) rfl rfl rfl (by kernel_rfl) (by kernel_rfl) (by kernel_rfl) (C0 (c:=A0) (xs:=([{Act.zero with kind:=30,n:=r.many}]:List Act)) A1n rfl rfl rfl (by kernel_rfl)) (fun b16=>(mc [[bx b6 (A4 ({pheldStyle with back:=r.sign.sty.back})) 67],[zbx b2],[bx b1 (C3 r) 126],[pbx pb pheldStyle plr pl.length pat],vo A0 26 plr pl] [true,true,true,true,true] (by first|rfl|simp) (by first|rfl|(simp only [List.length_set]<;>rfl)))) (fun b16=>(A2.pick [1,2,3,4,5,6] rfl)) fun b16=>?_
  have:([{Act.zero with kind:=30,n:=r.many}]:List Act).length=1:=rfl
  refine zho 2 (bx b6 (A4 ({pheldStyle with back:=r.sign.sty.back})) 67::zbx b2::bx b1 (C3 r) 126::pbx pb pheldStyle plr pl.length pat::(vo A0 26 plr pl)++([])) (zml 9 127) rfl (G8 (L2:=[bx b6 (A4 ({pheldStyle with back:=r.sign.sty.back})) 67,zbx b2,bx b1 (C3 r) 126]) (Y3 pheldStyle pl pat ({pheldStyle with back:=r.sign.sty.back}) pb plr hokplr _ rfl) rfl rfl rfl rfl rfl (A2.pick [1,2,3,4,5,6] rfl) (F8 [[bx b6 (A4 ({pheldStyle with back:=r.sign.sty.back})) 67],[zbx b2],[bx b1 (C3 r) 126],[pbx pb pheldStyle plr pl.length pat],vo A0 26 plr pl] [3,4,0,1,2] 5 rfl (by decide) rfl [[pbx pb pheldStyle plr pl.length pat],vo A0 26 plr pl,[bx b6 (A4 ({pheldStyle with back:=r.sign.sty.back})) 67],[zbx b2],[bx b1 (C3 r) 126]] rfl (by first|rfl|simp)) (fun ⟨r17,hk18⟩=>(bx b6 (A4 ({pheldStyle with back:=r.sign.sty.back})) 67::zbx b2::bx b1 (C3 r) 126::pbx pb pheldStyle plr pl.length pat::(vo A0 26 plr pl)++((vo A0 26 r17 (A1 pheldStyle pl pat ({pheldStyle with back:=r.sign.sty.back})))++([])))) (fun ⟨r17,hk18⟩=>F8 [[pbx pb pheldStyle plr pl.length pat],vo A0 26 plr pl,vo A0 26 r17 (A1 pheldStyle pl pat ({pheldStyle with back:=r.sign.sty.back})),[bx b6 (A4 ({pheldStyle with back:=r.sign.sty.back})) 67],[zbx b2],[bx b1 (C3 r) 126]] [3,4,5,0,1,2] 6 rfl (by decide) (by first|rfl|simp) [[bx b6 (A4 ({pheldStyle with back:=r.sign.sty.back})) 67],[zbx b2],[bx b1 (C3 r) 126],[pbx pb pheldStyle plr pl.length pat],vo A0 26 plr pl,vo A0 26 r17 (A1 pheldStyle pl pat ({pheldStyle with back:=r.sign.sty.back}))] rfl (by first|rfl|simp))) (fun ⟨r17,hk18⟩=>(mc [[bx b6 (A4 ({pheldStyle with back:=r.sign.sty.back})) 67],[zbx b2],[bx b1 (C3 r) 126],[pbx pb pheldStyle plr pl.length pat],vo A0 26 plr pl,vo A0 26 r17 (A1 pheldStyle pl pat ({pheldStyle with back:=r.sign.sty.back}))] [true,true,true,true,true,false] (by first|rfl|simp) (by first|rfl|(simp only [List.length_set]<;>rfl)))) (fun ⟨r17,hk18⟩=>(A2.pick [1,2,3,4,5,6] rfl)) fun ⟨r17,hk18⟩=>?_
  have:=VOk.le hk18
  have:=VOk.cap hk18
  have:=N6 pheldStyle pl pat ({pheldStyle with back:=r.sign.sty.back})
  obtain ⟨_,_,_⟩:=this
  refine zho 7 (bx b6 (A4 ({pheldStyle with back:=r.sign.sty.back})) 67::zbx b2::bx b1 (C3 r) 126::pbx pb pheldStyle plr pl.length pat::(vo A0 26 plr pl)++([])) (zml 9 255) rfl (Tri.own (X9 (f:=A0) (r:=r17) (xs:=(A1 pheldStyle pl pat ({pheldStyle with back:=r.sign.sty.back}))) (ys:=([{Act.zero with kind:=30,n:=r.many}]:List Act)) (pre:=(bx b6 (A4 ({pheldStyle with back:=r.sign.sty.back})) 67::zbx b2::bx b1 (C3 r) 126::pbx pb pheldStyle plr pl.length pat::(vo A0 26 plr pl)++([]))) (post:=[]) B0y (fun _=>rfl) (fun _=>rfl) rfl rfl rfl rfl rfl rfl rfl rfl (by first|rfl|(try dsimp only;simp only [List.append_nil,List.cons_append,List.nil_append,List.append_assoc])) (B0 0 rfl) hk18 (by first|omega|(simp<;>omega)) (by first|omega|(simp<;>omega))) (fun ⟨r19,hr20⟩=>(bx b6 (A4 ({pheldStyle with back:=r.sign.sty.back})) 67::zbx b2::bx b1 (C3 r) 126::pbx pb pheldStyle plr pl.length pat::(vo A0 26 plr pl)++((vo A0 26 r19 ((A1 pheldStyle pl pat ({pheldStyle with back:=r.sign.sty.back}))++([{Act.zero with kind:=30,n:=r.many}]:List Act)))++([])))) (fun ⟨r19,hr20⟩=>by first|rfl|(try dsimp only;simp only [List.append_nil,List.cons_append,List.nil_append,List.append_assoc]))) (fun ⟨r19,hr20⟩=>(mc [[bx b6 (A4 ({pheldStyle with back:=r.sign.sty.back})) 67],[zbx b2],[bx b1 (C3 r) 126],[pbx pb pheldStyle plr pl.length pat],vo A0 26 plr pl,vo A0 26 r19 ((A1 pheldStyle pl pat ({pheldStyle with back:=r.sign.sty.back}))++([{Act.zero with kind:=30,n:=r.many}]:List Act))] [true,true,true,true,true,false] (by first|rfl|simp) (by first|rfl|(simp only [List.length_set]<;>rfl)))) (fun ⟨r19,hr20⟩=>(A2.pick [1,2,3,4,5,6] rfl)) fun ⟨r19,hr20⟩=>?_
  have:=VOk.le hr20
  have:=VOk.cap hr20
  refine zhp [8] 0 (zml 9 511) [(9,.slice (va r19.q) (((A1 pheldStyle pl pat ({pheldStyle with back:=r.sign.sty.back}))++([{Act.zero with kind:=30,n:=r.many}]:List Act)).length) r19.k)] ?_
  refine A4z (by kernel_rfl) ?_
  refine A8 (sr 1 rfl (ip' 1 0 [(50,bv last)] ?_))
  refine ie ?_
  refine zjb rfl hR ?_ ?_<;>clear hR<;>intro hR h21
  ·refine sr 7 rfl (zrg 7 0 [0,2,1] [(7,bv true)] (bx b6 (A4 ({pheldStyle with back:=r.sign.sty.back})) 67::bx b2 [.slice (va r19.q) (((A1 pheldStyle pl pat ({pheldStyle with back:=r.sign.sty.back}))++([{Act.zero with kind:=30,n:=r.many}]:List Act)).length) r19.k,iv pheldStyle.attr,iv pheldStyle.under,iv pheldStyle.fore.kind,iv pheldStyle.fore.n,iv r.sign.sty.back.kind,iv r.sign.sty.back.n,iv pheldStyle.line.kind,iv pheldStyle.line.n,iv r.at_] 176::bx b1 (C3 r) 126::pbx pb pheldStyle plr pl.length pat::(vo A0 26 plr pl)++((vo A0 26 r19 ((A1 pheldStyle pl pat ({pheldStyle with back:=r.sign.sty.back}))++([{Act.zero with kind:=30,n:=r.many}]:List Act)))++([]))) ?_)
   subst hR
   refine ie (B5 ?_)
   exact zer hr hD (A5j rfl (F5 (us:=[.slice (va r19.q) (((A1 pheldStyle pl pat ({pheldStyle with back:=r.sign.sty.back}))++([{Act.zero with kind:=30,n:=r.many}]:List Act)).length) r19.k,iv pheldStyle.attr,iv pheldStyle.under,iv pheldStyle.fore.kind,iv pheldStyle.fore.n,iv r.sign.sty.back.kind,iv r.sign.sty.back.n,iv pheldStyle.line.kind,iv pheldStyle.line.n,iv r.at_]) B4a rfl 1 rfl rfl rfl) (C1 rfl)) ⟨r19,hr20⟩ (mc [[bx b6 (A4 ({pheldStyle with back:=r.sign.sty.back})) 67],[bx b2 [.slice (va r19.q) (((A1 pheldStyle pl pat ({pheldStyle with back:=r.sign.sty.back}))++([{Act.zero with kind:=30,n:=r.many}]:List Act)).length) r19.k,iv pheldStyle.attr,iv pheldStyle.under,iv pheldStyle.fore.kind,iv pheldStyle.fore.n,iv r.sign.sty.back.kind,iv r.sign.sty.back.n,iv pheldStyle.line.kind,iv pheldStyle.line.n,iv r.at_] 176],[bx b1 (C3 r) 126],[pbx pb pheldStyle plr pl.length pat],vo A0 26 plr pl,vo A0 26 r19 ((A1 pheldStyle pl pat ({pheldStyle with back:=r.sign.sty.back}))++([{Act.zero with kind:=30,n:=r.many}]:List Act))] [false,false,false,true,true,true] (by first|rfl|simp) (by first|rfl|(simp only [List.length_set]<;>rfl))) fn0
  refine B1 (nx ?_)
  refine sh 12 [(12,[bx b6 (A4 ({pheldStyle with back:=r.sign.sty.back})) 67]),(10,[zbx b2]),(12,[bx b1 (C3 r) 126]),(12,[pbx pb pheldStyle plr pl.length pat]),(12,vo A0 26 plr pl),(5,vo A0 26 r19 ((A1 pheldStyle pl pat ({pheldStyle with back:=r.sign.sty.back}))++([{Act.zero with kind:=30,n:=r.many}]:List Act)))] [sl A0 (some ⟨b16,0,none⟩) ([{Act.zero with kind:=30,n:=r.many}]:List Act),A1y,A1z,M9,M1,I6,N9] (bx b6 (A4 ({pheldStyle with back:=r.sign.sty.back})) 67::zbx b2::bx b1 (C3 r) 126::pbx pb pheldStyle plr pl.length pat::(vo A0 26 plr pl)++((vo A0 26 r19 ((A1 pheldStyle pl pat ({pheldStyle with back:=r.sign.sty.back}))++([{Act.zero with kind:=30,n:=r.many}]:List Act)))++([]))) (zml 12 0) (by kernel_rfl) rfl (by kernel_rfl) (by kernel_rfl) (by kernel_rfl) (mc [[bx b6 (A4 ({pheldStyle with back:=r.sign.sty.back})) 67],[zbx b2],[bx b1 (C3 r) 126],[pbx pb pheldStyle plr pl.length pat],vo A0 26 plr pl,vo A0 26 r19 ((A1 pheldStyle pl pat ({pheldStyle with back:=r.sign.sty.back}))++([{Act.zero with kind:=30,n:=r.many}]:List Act))] [true,true,true,true,true,true] (by first|rfl|simp) (by first|rfl|(simp only [List.length_set]<;>rfl))) A2.refl ?_
  refine zhp [0,1,7] 9 (zml 12 131) [(56,.slice (va r19.q) (((A1 pheldStyle pl pat ({pheldStyle with back:=r.sign.sty.back}))++([{Act.zero with kind:=30,n:=r.many}]:List Act)).length) r19.k),(57,pt b1 12),(63,pt b1 14)] ?_
  refine zhl 2 (bx b6 (A4 ({pheldStyle with back:=r.sign.sty.back})) 67::zbx b2::bx b1 (C3 r) 126::pbx pb pheldStyle plr pl.length pat::(vo A0 26 plr pl)++([])) (zml 12 135) rfl (B2 (v:=iv r.many) ty3 rfl rfl 2 rfl rfl) ?_
  refine zhk 3 (zml 12 143) rfl (A1l (cs:=A0 ({Act.zero with kind:=20,n:=2,m:=r.many})) rfl rfl (by kernel_rfl)) (zhl 6 (bx b6 (A4 ({pheldStyle with back:=r.sign.sty.back})) 67::zbx b2::bx b1 (C3 r) 126::pbx pb pheldStyle plr pl.length pat::(vo A0 26 plr pl)++([])) (zml 12 207) rfl (F6 (us:=A4 ({pheldStyle with back:=r.sign.sty.back})) B5d rfl rfl 0 rfl rfl rfl) ?_)
  refine zhl 8 (bx b6 (A4 ({pheldStyle with back:=r.sign.sty.back})) 67::zbx b2::bx b1 (C3 r) 126::pbx pb pheldStyle plr pl.length pat::(vo A0 26 plr pl)++([])) (zml 12 463) rfl (B2 (v:=iv r.til) ty3 rfl rfl 2 rfl rfl) ?_
  refine zho 4 (bx b6 (A4 ({pheldStyle with back:=r.sign.sty.back})) 67::zbx b2::bx b1 (C3 r) 126::pbx pb pheldStyle plr pl.length pat::(vo A0 26 plr pl)++((vo A0 26 r19 ((A1 pheldStyle pl pat ({pheldStyle with back:=r.sign.sty.back}))++([{Act.zero with kind:=30,n:=r.many}]:List Act)))++([]))) (zml 12 479) rfl (C0 (c:=A0) (xs:=([{Act.zero with kind:=20,n:=2,m:=r.many}]:List Act)) A1n rfl rfl rfl (by kernel_rfl)) (fun b22=>(mc [[bx b6 (A4 ({pheldStyle with back:=r.sign.sty.back})) 67],[zbx b2],[bx b1 (C3 r) 126],[pbx pb pheldStyle plr pl.length pat],vo A0 26 plr pl,vo A0 26 r19 ((A1 pheldStyle pl pat ({pheldStyle with back:=r.sign.sty.back}))++([{Act.zero with kind:=30,n:=r.many}]:List Act))] [true,true,true,true,true,true] (by first|rfl|simp) (by first|rfl|(simp only [List.length_set]<;>rfl)))) (fun b22=>(A2.pick [1,2,3,4,5,6,7] rfl)) fun b22=>?_
  have:([{Act.zero with kind:=20,n:=2,m:=r.many}]:List Act).length=1:=rfl
  refine zho 5 (bx b6 (A4 ({pheldStyle with back:=r.sign.sty.back})) 67::zbx b2::bx b1 (C3 r) 126::pbx pb pheldStyle plr pl.length pat::(vo A0 26 plr pl)++([])) (zml 12 511) rfl (Tri.own (X9 (f:=A0) (r:=r19) (xs:=((A1 pheldStyle pl pat ({pheldStyle with back:=r.sign.sty.back}))++([{Act.zero with kind:=30,n:=r.many}]:List Act))) (ys:=([{Act.zero with kind:=20,n:=2,m:=r.many}]:List Act)) (pre:=(bx b6 (A4 ({pheldStyle with back:=r.sign.sty.back})) 67::zbx b2::bx b1 (C3 r) 126::pbx pb pheldStyle plr pl.length pat::(vo A0 26 plr pl)++([]))) (post:=[]) B0y (fun _=>rfl) (fun _=>rfl) rfl rfl rfl rfl rfl rfl rfl rfl (by first|rfl|(try dsimp only;simp only [List.append_nil,List.cons_append,List.nil_append,List.append_assoc])) (B0 0 rfl) hr20 (by first|omega|(simp<;>omega)) (by first|omega|(simp<;>omega))) (fun ⟨r23,hr24⟩=>(bx b6 (A4 ({pheldStyle with back:=r.sign.sty.back})) 67::zbx b2::bx b1 (C3 r) 126::pbx pb pheldStyle plr pl.length pat::(vo A0 26 plr pl)++((vo A0 26 r23 (((A1 pheldStyle pl pat ({pheldStyle with back:=r.sign.sty.back}))++([{Act.zero with kind:=30,n:=r.many}]:List Act))++([{Act.zero with kind:=20,n:=2,m:=r.many}]:List Act)))++([])))) (fun ⟨r23,hr24⟩=>by first|rfl|(try dsimp only;simp only [List.append_nil,List.cons_append,List.nil_append,List.append_assoc]))) (fun ⟨r23,hr24⟩=>(mc [[bx b6 (A4 ({pheldStyle with back:=r.sign.sty.back})) 67],[zbx b2],[bx b1 (C3 r) 126],[pbx pb pheldStyle plr pl.length pat],vo A0 26 plr pl,vo A0 26 r23 (((A1 pheldStyle pl pat ({pheldStyle with back:=r.sign.sty.back}))++([{Act.zero with kind:=30,n:=r.many}]:List Act))++([{Act.zero with kind:=20,n:=2,m:=r.many}]:List Act))] [true,true,true,true,true,false] (by first|rfl|simp) (by first|rfl|(simp only [List.length_set]<;>rfl)))) (fun ⟨r23,hr24⟩=>(A2.pick [1,2,3,4,5,6,7] rfl)) fun ⟨r23,hr24⟩=>?_
  have:=VOk.le hr24
  have:=VOk.cap hr24
  refine zhk 9 (zml 12 1023) rfl (A1l (cs:=[.slice (va r23.q) ((((A1 pheldStyle pl pat ({pheldStyle with back:=r.sign.sty.back}))++([{Act.zero with kind:=30,n:=r.many}]:List Act))++([{Act.zero with kind:=20,n:=2,m:=r.many}]:List Act)).length) r23.k,iv pheldStyle.attr,iv pheldStyle.under,iv pheldStyle.fore.kind,iv pheldStyle.fore.n,iv r.sign.sty.back.kind,iv r.sign.sty.back.n,iv pheldStyle.line.kind,iv pheldStyle.line.n,iv r.til]) rfl rfl (by kernel_rfl)) ?_
  refine zho 10 (bx b6 (A4 ({pheldStyle with back:=r.sign.sty.back})) 67::bx b1 (C3 r) 126::pbx pb pheldStyle plr pl.length pat::(vo A0 26 plr pl)++([])) (zml 12 2047) rfl (N4 (us:=[.slice (va r23.q) ((((A1 pheldStyle pl pat ({pheldStyle with back:=r.sign.sty.back}))++([{Act.zero with kind:=30,n:=r.many}]:List Act))++([{Act.zero with kind:=20,n:=2,m:=r.many}]:List Act)).length) r23.k,iv pheldStyle.attr,iv pheldStyle.under,iv pheldStyle.fore.kind,iv pheldStyle.fore.n,iv r.sign.sty.back.kind,iv r.sign.sty.back.n,iv pheldStyle.line.kind,iv pheldStyle.line.n,iv r.til]) (cs':=[.slice (va r23.q) ((((A1 pheldStyle pl pat ({pheldStyle with back:=r.sign.sty.back}))++([{Act.zero with kind:=30,n:=r.many}]:List Act))++([{Act.zero with kind:=20,n:=2,m:=r.many}]:List Act)).length) r23.k,iv pheldStyle.attr,iv pheldStyle.under,iv pheldStyle.fore.kind,iv pheldStyle.fore.n,iv r.sign.sty.back.kind,iv r.sign.sty.back.n,iv pheldStyle.line.kind,iv pheldStyle.line.n,iv r.til]) B4a rfl rfl rfl 1 rfl rfl rfl rfl rfl rfl) (fun _=>(mc [[bx b6 (A4 ({pheldStyle with back:=r.sign.sty.back})) 67],[bx b2 [.slice (va r23.q) ((((A1 pheldStyle pl pat ({pheldStyle with back:=r.sign.sty.back}))++([{Act.zero with kind:=30,n:=r.many}]:List Act))++([{Act.zero with kind:=20,n:=2,m:=r.many}]:List Act)).length) r23.k,iv pheldStyle.attr,iv pheldStyle.under,iv pheldStyle.fore.kind,iv pheldStyle.fore.n,iv r.sign.sty.back.kind,iv r.sign.sty.back.n,iv pheldStyle.line.kind,iv pheldStyle.line.n,iv r.til] 176],[bx b1 (C3 r) 126],[pbx pb pheldStyle plr pl.length pat],vo A0 26 plr pl,vo A0 26 r23 (((A1 pheldStyle pl pat ({pheldStyle with back:=r.sign.sty.back}))++([{Act.zero with kind:=30,n:=r.many}]:List Act))++([{Act.zero with kind:=20,n:=2,m:=r.many}]:List Act))] [true,false,true,true,true,false] (by first|rfl|simp) (by first|rfl|(simp only [List.length_set]<;>rfl)))) (fun _=>(A2.pick [1,2,3,4,5,6,7] rfl)) fun _=>?_
  refine zhp [11] 0 (zml 12 4095) [(7,bv true)] ?_
  refine A4z (by kernel_rfl) ?_
  subst hR
  refine B5 ?_
  exact zer hr hD (A5j rfl (F5 (us:=[.slice (va r23.q) ((((A1 pheldStyle pl pat ({pheldStyle with back:=r.sign.sty.back}))++([{Act.zero with kind:=30,n:=r.many}]:List Act))++([{Act.zero with kind:=20,n:=2,m:=r.many}]:List Act)).length) r23.k,iv pheldStyle.attr,iv pheldStyle.under,iv pheldStyle.fore.kind,iv pheldStyle.fore.n,iv r.sign.sty.back.kind,iv r.sign.sty.back.n,iv pheldStyle.line.kind,iv pheldStyle.line.n,iv r.til]) B4a rfl 1 rfl rfl rfl) (C1 rfl)) ⟨r23,hr24⟩ (mc [[bx b6 (A4 ({pheldStyle with back:=r.sign.sty.back})) 67],[bx b2 [.slice (va r23.q) ((((A1 pheldStyle pl pat ({pheldStyle with back:=r.sign.sty.back}))++([{Act.zero with kind:=30,n:=r.many}]:List Act))++([{Act.zero with kind:=20,n:=2,m:=r.many}]:List Act)).length) r23.k,iv pheldStyle.attr,iv pheldStyle.under,iv pheldStyle.fore.kind,iv pheldStyle.fore.n,iv r.sign.sty.back.kind,iv r.sign.sty.back.n,iv pheldStyle.line.kind,iv pheldStyle.line.n,iv r.til] 176],[bx b1 (C3 r) 126],[pbx pb pheldStyle plr pl.length pat],vo A0 26 plr pl,vo A0 26 r23 (((A1 pheldStyle pl pat ({pheldStyle with back:=r.sign.sty.back}))++([{Act.zero with kind:=30,n:=r.many}]:List Act))++([{Act.zero with kind:=20,n:=2,m:=r.many}]:List Act))] [false,false,false,true,true,true] (by first|rfl|simp) (by first|rfl|(simp only [List.length_set]<;>rfl))) fn0
def K4 (pl:List Act) (cost2:Int) (bestl2:List Act) (beststyle2:Sty) (bestat2:Int):List Act×Sty×Int :=
 ((pl++bestl2),beststyle2,bestat2)
def J3 (pheldStyle:Sty) (pl:List Act) (pat:Int) (r:Prn) (last:Bool) (cost1:Int) (bestl1:List Act) (beststyle1:Sty) (bestat1:Int):List Act×Sty×Int :=
 (B6 (J5 pheldStyle pl pat r last) fun (y2:List Act×Sty×Int×Bool)=>(B6 (N7 y2.1) fun (y6:List UInt8×Int)=>(bif (((!y2.2.2.2)||(!decide (y6.2=0)))||((decide ((0:Int)≤cost1))&&(decide (cost1≤(y6.1.length:Int))))) then K4 pl cost1 bestl1 beststyle1 bestat1 else K4 pl (y6.1.length:Int) y2.1 y2.2.1 y2.2.2.1)))
def H3 (pheldStyle:Sty) (pl:List Act) (pat:Int) (r:Prn) (last:Bool) (cost:Int) (bestl:List Act) (beststyle:Sty) (bestat:Int):List Act×Sty×Int :=
 (B6 (K0 pheldStyle pl pat r last) fun (y3:List Act×Sty×Int×Bool)=>(B6 (N7 y3.1) fun (y7:List UInt8×Int)=>(bif (((!y3.2.2.2)||(!decide (y7.2=0)))||((decide ((0:Int)≤cost))&&(decide (cost≤(y7.1.length:Int))))) then J3 pheldStyle pl pat r last cost bestl beststyle bestat else J3 pheldStyle pl pat r last (y7.1.length:Int) y3.1 y3.2.1 y3.2.2.1)))
def N5 (pheldStyle:Sty) (pl:List Act) (pat:Int) (r:Prn) (last:Bool):List Act×Sty×Int :=
 (B6 (K5 pheldStyle pl pat r last) fun (y0:List Act×Sty×Int×Bool)=>(B6 (N7 y0.1) fun (y1:List UInt8×Int)=>(bif (((!y0.2.2.2)||(!decide (y1.2=0)))||false) then H3 pheldStyle pl pat r last (-1) ([]:List Act) (⟨0,0,(⟨0,0⟩:Col),(⟨0,0⟩:Col),(⟨0,0⟩:Col)⟩:Sty) 0 else H3 pheldStyle pl pat r last (y1.1.length:Int) y0.1 y0.2.1 y0.2.2.1)))
theorem B9q {c:Bool} {x y:List Act×Sty×Int} {n:Nat} (hx:x.1.length≤n) (hy:y.1.length≤n):(bif c then x else y).1.length≤n:=by cases c<;>assumption
theorem A3r (pl:List Act) (c:Int) (b:List Act) (s:Sty) (t:Int) (hb:b.length≤322):(K4 pl c b s t).1.length≤pl.length+322:=by
 unfold K4;simp only [List.length_append];omega
theorem A4c (hS:Sty) (pl:List Act) (pat:Int) (r:Prn) (last:Bool) (c:Int) (b:List Act) (s:Sty) (t:Int) (hb:b.length≤322):(J3 hS pl pat r last c b s t).1.length≤pl.length+322:=by
 unfold J3 B6
 exact B9q (A3r _ _ _ _ _ hb) (A3r _ _ _ _ _ (A0k ..).1)
theorem A4b (hS:Sty) (pl:List Act) (pat:Int) (r:Prn) (last:Bool) (c:Int) (b:List Act) (s:Sty) (t:Int) (hb:b.length≤322):(H3 hS pl pat r last c b s t).1.length≤pl.length+322:=by
 unfold H3 B6
 exact B9q (A4c _ _ _ _ _ _ _ _ _ hb) (A4c _ _ _ _ _ _ _ _ _ (A0d ..).1)
theorem A6c (pheldStyle:Sty) (pl:List Act) (pat:Int) (r:Prn) (last:Bool) (hm:0≤r.many∧r.many≤100):(N5 pheldStyle pl pat r last).1.length≤pl.length+322:=by
 unfold N5 B6
 exact B9q (A4b _ _ _ _ _ _ _ _ _ (Nat.zero_le _)) (A4b _ _ _ _ _ _ _ _ _ (A0j _ _ _ _ _ hm).1)
theorem C7l {c:Bool} {x y:List Act×Sty×Int} (hx:∀ a ∈ x.1,a.text.length≤100000000) (hy:∀ a ∈ y.1,a.text.length≤100000000):∀ a ∈ (bif c then x else y).1,a.text.length≤100000000:=by cases c<;>assumption
theorem A4p (pl:List Act) (c:Int) (b:List Act) (s:Sty) (t:Int) (hp:∀ a ∈ pl,a.text.length≤100000000) (hb:∀ a ∈ b,a.text.length≤100000000):∀ a ∈ (K4 pl c b s t).1,a.text.length≤100000000:=by
 unfold K4
 intro a ha
 rcases List.mem_append.1 ha with ha | ha
 ·exact hp a ha
 ·exact hb a ha
theorem A4o (hS:Sty) (pl:List Act) (pat:Int) (r:Prn) (last:Bool) (c:Int) (b:List Act) (s:Sty) (t:Int) (hp:∀ a ∈ pl,a.text.length≤100000000) (hb:∀ a ∈ b,a.text.length≤100000000):∀ a ∈ (J3 hS pl pat r last c b s t).1,a.text.length≤100000000:=by
 unfold J3 B6
 exact C7l (A4p _ _ _ _ _ hp hb) (A4p _ _ _ _ _ hp (A0k ..).2)
theorem A4m (hS:Sty) (pl:List Act) (pat:Int) (r:Prn) (last:Bool) (c:Int) (b:List Act) (s:Sty) (t:Int) (hp:∀ a ∈ pl,a.text.length≤100000000) (hb:∀ a ∈ b,a.text.length≤100000000):∀ a ∈ (H3 hS pl pat r last c b s t).1,a.text.length≤100000000:=by
 unfold H3 B6
 exact C7l (A4o _ _ _ _ _ _ _ _ _ hp hb) (A4o _ _ _ _ _ _ _ _ _ hp (A0d ..).2)
theorem B2z (pheldStyle:Sty) (pl:List Act) (pat:Int) (r:Prn) (last:Bool) (hm:0≤r.many∧r.many≤100) (hp:∀ a ∈ pl,a.text.length≤100000000):∀ a ∈ (N5 pheldStyle pl pat r last).1,a.text.length≤100000000:=by
 unfold N5 B6
 exact C7l (A4m _ _ _ _ _ _ _ _ _ hp (fun a ha=>by cases ha)) (A4m _ _ _ _ _ _ _ _ _ hp (A0j _ _ _ _ _ hm).2)
theorem B3u (pheldStyle:Sty) (pl:List Act) (pat:Int) (r:Prn) (last:Bool) (pb:Nat) (plr:VR) (hokplr:VOk 6 pl.length plr) (hmy:0≤r.many∧r.many≤100) (hpl:pl.length≤1000000) (R:List Act×Sty×Int) (hR:N5 pheldStyle pl pat r last=R):Con Tryz.prog 60 [pt pb 0,ag (C3 r),bv last] (pbx pb pheldStyle plr pl.length pat::(vo A0 26 plr pl)++([])) [A1y,A1z,M9,M1,I6,N9] ({r:VR // VOk 6 R.1.length r}) (fun x=>.tuple #[]) (fun x=>(bx pb [iv R.2.1.attr,iv R.2.1.under,iv R.2.1.fore.kind,iv R.2.1.fore.n,iv R.2.1.back.kind,iv R.2.1.back.n,iv R.2.1.line.kind,iv R.2.1.line.n,.slice (va x.1.q) R.1.length x.1.k,iv R.2.2] 121::(vo A0 26 x.1 R.1)++([]))) (fun x=>[]):=by
 refine zco Tryz.func60 [(0,pt pb 0),(1,ag (C3 r)),(2,bv last)] fun X hX hr hD=>?_
 replace hR:=(N5.eq_1 ..).symm.trans hR
 have:=VOk.le hokplr
 refine sr 1 rfl (M8 1 0 [] (fun b1=>[(4,pt b1 0)]) (fun b1=>(bx b1 (C3 r) 126::pbx pb pheldStyle plr pl.length pat::(vo A0 26 plr pl)++([]))) (fun b1=>(ie (C7x (sr 1 rfl (M8 1 0 [] (fun b2=>[(6,pt b2 0)]) (fun b2=>(zbx b2::bx b1 (C3 r) 126::pbx pb pheldStyle plr pl.length pat::(vo A0 26 plr pl)++([]))) (fun b2=>(ie (sr 1 rfl (ip' 1 0 [(7,iv (-1))] (ie (A8 (C7t (nx (A8 (sr 11 rfl (zrl 11 0 [] [(23,ag [.func (.func 112) #[pt pb 0] #[],.func (.func 113) #[pt pb 0] #[],.func (.func 114) #[pt pb 0] #[]]),(24,iv 0)] (ie (B4 (Z8 5 ?_))))))))))))))))))))
 refine D7 (sr 1 rfl (ip' 1 0 [(25,bv true)] ?_))
 refine ie (A8 (K1 rfl (B1 (nx (E3h (fun (cost:Int) (bestl:List Act) (bestlr:VR) (beststyle:Sty) (bestat:Int)=>(H3 pheldStyle pl pat r last cost bestl beststyle bestat=R∧VOk 6 bestl.length bestlr∧bestl.length≤322,[(0,pt pb 0),(2,bv last),(4,pt b1 0),(6,pt b2 0),(7,iv cost),(23,ag [.func (.func 112) #[pt pb 0] #[],.func (.func 113) #[pt pb 0] #[],.func (.func 114) #[pt pb 0] #[]]),(24,iv 0)],(obx b2 beststyle bestlr bestl.length bestat::bx b1 (C3 r) 126::pbx pb pheldStyle plr pl.length pat::(vo A0 26 plr pl)++((vo A0 26 bestlr bestl)++([]))),[A1y,A1z,M9,M1,I6,N9])) ?_ ?_)))))
 ·refine B4 (sr 3 rfl (ix rfl (D8 (v:=ag [.func (.func 112) #[pt pb 0] #[]]) (us:=[.func (.func 112) #[pt pb 0] #[]]) Tryz.underlying180 D7b rfl rfl rfl 0 rfl (by decide) rfl rfl rfl) ?_))
  refine M8 2 0 [0] (fun b3=>[(9,pt b3 0)]) (fun b3=>(bx b3 [.func (.func 112) #[pt pb 0] #[]] 179::zbx b2::bx b1 (C3 r) 126::pbx pb pheldStyle plr pl.length pat::(vo A0 26 plr pl)++([]))) (fun b3=>?_)
  refine ie (sr 11 rfl (zrl 4 7 [0,2] [(29,.func (.func 112) #[pt pb 0] #[]),(30,ag (C3 r)),(31,bv last)] ?_))
  have hQ:=D0 hR;clear hR;obtain ⟨y0,hy0,hR⟩:=hQ
  refine it rfl (G8 (L2:=[bx b3 [.func (.func 112) #[pt pb 0] #[]] 179,zbx b2,bx b1 (C3 r) 126]) (B1p pheldStyle pl pat r last pb plr hokplr (by first|assumption|exact hel _ (List.mem_cons_self ..)|omega) y0 hy0) rfl rfl rfl rfl rfl A2.refl (F8 [[bx b3 [.func (.func 112) #[pt pb 0] #[]] 179],[zbx b2],[bx b1 (C3 r) 126],[pbx pb pheldStyle plr pl.length pat],vo A0 26 plr pl] [3,4,0,1,2] 5 rfl (by decide) rfl [[pbx pb pheldStyle plr pl.length pat],vo A0 26 plr pl,[bx b3 [.func (.func 112) #[pt pb 0] #[]] 179],[zbx b2],[bx b1 (C3 r) 126]] rfl (by first|rfl|simp)) (fun ⟨r4,hk5⟩=>(bx b3 [.func (.func 112) #[pt pb 0] #[]] 179::zbx b2::bx b1 (C3 r) 126::pbx pb pheldStyle plr pl.length pat::(vo A0 26 plr pl)++((vo A0 26 r4 y0.1)++([])))) (fun ⟨r4,hk5⟩=>F8 [[pbx pb pheldStyle plr pl.length pat],vo A0 26 plr pl,vo A0 26 r4 y0.1,[bx b3 [.func (.func 112) #[pt pb 0] #[]] 179],[zbx b2],[bx b1 (C3 r) 126]] [3,4,5,0,1,2] 6 rfl (by decide) (by first|rfl|simp) [[bx b3 [.func (.func 112) #[pt pb 0] #[]] 179],[zbx b2],[bx b1 (C3 r) 126],[pbx pb pheldStyle plr pl.length pat],vo A0 26 plr pl,vo A0 26 r4 y0.1] rfl (by first|rfl|simp))) fun ⟨r4,hk5⟩=>?_
  have:=VOk.le hk5
  have:=VOk.cap hk5
  have:=A0j pheldStyle pl pat r last (by first|assumption|exact hel _ (List.mem_cons_self ..));try rw [hy0] at this
  obtain ⟨_,_⟩:=this
  refine M8 6 0 [0] (fun b6=>[(10,pt b6 0),(11,bv y0.2.2.2)]) (fun b6=>(obx b6 y0.2.1 r4 y0.1.length y0.2.2.1::bx b3 [.func (.func 112) #[pt pb 0] #[]] 179::zbx b2::bx b1 (C3 r) 126::pbx pb pheldStyle plr pl.length pat::(vo A0 26 plr pl)++((vo A0 26 r4 y0.1)++([])))) (fun b6=>?_)
  refine ie (sr 8 rfl (zrl 2 6 [0] [(37,.slice (va r4.q) y0.1.length r4.k)] ?_))
  have:=VOk.cap hk5
  have:=VOk.le hk5
  have hQ:=D0 hR;clear hR;obtain ⟨y1,hy1,hR⟩:=hQ
  refine it rfl (G8 (L2:=(obx b6 y0.2.1 r4 y0.1.length y0.2.2.1::bx b3 [.func (.func 112) #[pt pb 0] #[]] 179::zbx b2::bx b1 (C3 r) 126::pbx pb pheldStyle plr pl.length pat::(vo A0 26 plr pl)++([]))) (Con.lend (T:=26) hk5 (A9c y0.1 (va r4.q) r4.k (by first|omega|(simp<;>omega)|(dsimp only;omega)|decide) (by first|omega|(simp<;>omega)|(dsimp only;omega)|decide) (by first|exact fun x hx=>by rw [(hpen x hx).2];exact Nat.zero_le _|exact fun x hx=>hnt x hx|assumption|decide|exact fun x hx=>Nat.le_trans (hrow x hx) (by decide)|exact fun x hx=>Nat.le_trans (of_decide_eq_true (List.all_eq_true.1 hbt x hx)) (by decide)|(intro x hx;simp only [List.nil_append,List.mem_append] at hx;rcases hx with hx|hx<;>first|exact Nat.le_trans (hrow x hx) (by decide)|exact Nat.le_trans (hpt x hx) (by decide))|(intro x hx;rw [List.mem_singleton.1 hx];omega)|exact fun x hx=>Nat.le_trans (hrow x (List.mem_of_mem_take hx)) (by decide)|exact fun x hx=>Nat.le_trans (hrow x (List.mem_of_mem_drop hx)) (by decide)|exact fun x hx=>Nat.le_trans (hrow x (List.mem_of_mem_drop (List.mem_of_mem_take hx))) (by decide)|omega) y1 hy1)) rfl rfl rfl rfl rfl A2.refl (F8 [[obx b6 y0.2.1 r4 y0.1.length y0.2.2.1],[bx b3 [.func (.func 112) #[pt pb 0] #[]] 179],[zbx b2],[bx b1 (C3 r) 126],[pbx pb pheldStyle plr pl.length pat],vo A0 26 plr pl,vo A0 26 r4 y0.1] [6,0,1,2,3,4,5] 7 rfl (by decide) rfl [vo A0 26 r4 y0.1,[obx b6 y0.2.1 r4 y0.1.length y0.2.2.1],[bx b3 [.func (.func 112) #[pt pb 0] #[]] 179],[zbx b2],[bx b1 (C3 r) 126],[pbx pb pheldStyle plr pl.length pat],vo A0 26 plr pl] rfl (by first|rfl|simp)) (fun ⟨r7,hk8⟩=>(obx b6 y0.2.1 r4 y0.1.length y0.2.2.1::bx b3 [.func (.func 112) #[pt pb 0] #[]] 179::zbx b2::bx b1 (C3 r) 126::pbx pb pheldStyle plr pl.length pat::(vo A0 26 plr pl)++((vo A0 26 r4 y0.1)++((vo cU8 5 r7 y1.1)++([]))))) (fun ⟨r7,hk8⟩=>F8 [vo A0 26 r4 y0.1,vo cU8 5 r7 y1.1,[obx b6 y0.2.1 r4 y0.1.length y0.2.2.1],[bx b3 [.func (.func 112) #[pt pb 0] #[]] 179],[zbx b2],[bx b1 (C3 r) 126],[pbx pb pheldStyle plr pl.length pat],vo A0 26 plr pl] [2,3,4,5,6,7,0,1] 8 rfl (by decide) (by first|rfl|simp) [[obx b6 y0.2.1 r4 y0.1.length y0.2.2.1],[bx b3 [.func (.func 112) #[pt pb 0] #[]] 179],[zbx b2],[bx b1 (C3 r) 126],[pbx pb pheldStyle plr pl.length pat],vo A0 26 plr pl,vo A0 26 r4 y0.1,vo cU8 5 r7 y1.1] rfl (by first|rfl|simp))) fun ⟨r7,hk8⟩=>?_
  have:=VOk.le hk8
  have:=VOk.cap hk8
  try have:=A6b y0.1 (fun x hx=>Nat.le_trans (hrow x (by first|exact hx|exact List.mem_of_mem_take hx|exact List.mem_of_mem_drop hx)) (by decide));try rw [hy1] at this
  refine ip' 5 0 [(12,.slice (va r7.q) y1.1.length r7.k),(13,iv y1.2)] (ie (A8 (sr 16 rfl (ip' 3 13 [(43,bv (!y0.2.2.2))] ?_))))
  refine zio 3 10 43 46 (!decide (y1.2=0)) (fun g9=>?_) ?_
  ·refine ip' 3 0 [(46,bv (!decide (y1.2=0)))] ?_
   exact A7 (U9 2 43 46 g9 A2.refl (mc [[obx b6 y0.2.1 r4 y0.1.length y0.2.2.1],[bx b3 [.func (.func 112) #[pt pb 0] #[]] 179],[zbx b2],[bx b1 (C3 r) 126],[pbx pb pheldStyle plr pl.length pat],vo A0 26 plr pl,vo A0 26 r4 y0.1,vo cU8 5 r7 y1.1] [true,true,true,true,true,true,true,true] (by first|rfl|simp) (by first|rfl|(simp only [List.length_set]<;>rfl))) rfl rfl rfl rfl rfl)
  refine ip' 1 9 [(47,bv ((!y0.2.2.2)||(!decide (y1.2=0))))] ?_
  refine zio 9 0 47 56 false (fun g10=>?_) ?_
  ·have g10p:=g10;try simp at g10p
   refine ip' 9 0 [(56,bv false)] ?_
   exact A7 (U9 2 47 56 g10 A2.refl (mc [[obx b6 y0.2.1 r4 y0.1.length y0.2.2.1],[bx b3 [.func (.func 112) #[pt pb 0] #[]] 179],[zbx b2],[bx b1 (C3 r) 126],[pbx pb pheldStyle plr pl.length pat],vo A0 26 plr pl,vo A0 26 r4 y0.1,vo cU8 5 r7 y1.1] [true,true,true,true,true,true,true,true] (by first|rfl|simp) (by first|rfl|(simp only [List.length_set]<;>rfl))) rfl rfl rfl rfl rfl)
  refine ie ?_
  refine zjb rfl hR ?_ ?_<;>clear hR<;>intro hR h11
  ·have h11p:=h11;try simp at h11p
   refine H7 (A3e (F8 [vo A0 26 VR.nil ([]:List Act),[obx b6 y0.2.1 r4 y0.1.length y0.2.2.1],[bx b3 [.func (.func 112) #[pt pb 0] #[]] 179],[zbx b2],[bx b1 (C3 r) 126],[pbx pb pheldStyle plr pl.length pat],vo A0 26 plr pl,vo A0 26 r4 y0.1,vo cU8 5 r7 y1.1] [3,4,5,6,0,1,2,7,8] 9 rfl (by decide) rfl [[zbx b2],[bx b1 (C3 r) 126],[pbx pb pheldStyle plr pl.length pat],vo A0 26 plr pl,vo A0 26 VR.nil ([]:List Act),[obx b6 y0.2.1 r4 y0.1.length y0.2.2.1],[bx b3 [.func (.func 112) #[pt pb 0] #[]] 179],vo A0 26 r4 y0.1,vo cU8 5 r7 y1.1] rfl (by first|rfl|simp)) ?_)
   exact D5s (-1) ([]:List Act) VR.nil (⟨0,0,(⟨0,0⟩:Col),(⟨0,0⟩:Col),(⟨0,0⟩:Col)⟩:Sty) 0 ⟨hR,VOk.nil,(by first|assumption|exact Nat.zero_le _)⟩ (mc [[zbx b2],[bx b1 (C3 r) 126],[pbx pb pheldStyle plr pl.length pat],vo A0 26 plr pl,vo A0 26 VR.nil ([]:List Act),[obx b6 y0.2.1 r4 y0.1.length y0.2.2.1],[bx b3 [.func (.func 112) #[pt pb 0] #[]] 179],vo A0 26 r4 y0.1,vo cU8 5 r7 y1.1] [true,true,true,true,true,false,false,false,false] (by first|rfl|simp) (by first|rfl|(simp only [List.length_set]<;>rfl))) A2.refl
  have h11p:=h11;try simp at h11p
  refine B1 (nx (A5 5 rfl (zrg 5 0 [0,2] [(7,iv (y1.1.length:Int))] (obx b6 y0.2.1 r4 y0.1.length y0.2.2.1::bx b3 [.func (.func 112) #[pt pb 0] #[]] 179::obx b2 y0.2.1 r4 y0.1.length y0.2.2.1::bx b1 (C3 r) 126::pbx pb pheldStyle plr pl.length pat::(vo A0 26 plr pl)++((vo A0 26 r4 y0.1)++((vo cU8 5 r7 y1.1)++([])))) (A7 ?_))))
  exact D5s (y1.1.length:Int) y0.1 r4 y0.2.1 y0.2.2.1 ⟨hR,hk5,(by first|assumption|exact Nat.zero_le _)⟩ (mc [[obx b6 y0.2.1 r4 y0.1.length y0.2.2.1],[bx b3 [.func (.func 112) #[pt pb 0] #[]] 179],[obx b2 y0.2.1 r4 y0.1.length y0.2.2.1],[bx b1 (C3 r) 126],[pbx pb pheldStyle plr pl.length pat],vo A0 26 plr pl,vo A0 26 r4 y0.1,vo cU8 5 r7 y1.1] [false,false,true,true,true,true,true,false] (by first|rfl|simp) (by first|rfl|(simp only [List.length_set]<;>rfl))) A2.refl
 intro cost bestl bestlr beststyle bestat
 rintro ⟨hR,hokbestlr,hb3⟩
 replace hR:=(H3.eq_1 ..).symm.trans hR
 refine A5 2 rfl (ix rfl (B7 (c:=1) rfl rfl rfl rfl (by decide)) (ip' 1 0 [(24,iv 1)] (A7 (D7 (sr 1 rfl (ip' 1 0 [(25,bv true)] ?_))))))
 refine ie (A8 (K1 rfl (B1 (nx (E3h (fun (cost1:Int) (bestl1:List Act) (bestlr1:VR) (beststyle1:Sty) (bestat1:Int)=>(J3 pheldStyle pl pat r last cost1 bestl1 beststyle1 bestat1=R∧VOk 6 bestl1.length bestlr1∧bestl1.length≤322,[(0,pt pb 0),(2,bv last),(4,pt b1 0),(6,pt b2 0),(7,iv cost1),(23,ag [.func (.func 112) #[pt pb 0] #[],.func (.func 113) #[pt pb 0] #[],.func (.func 114) #[pt pb 0] #[]]),(24,iv 1)],(obx b2 beststyle1 bestlr1 bestl1.length bestat1::bx b1 (C3 r) 126::pbx pb pheldStyle plr pl.length pat::(vo A0 26 plr pl)++((vo A0 26 bestlr1 bestl1)++([]))),[A1y,A1z,M9,M1,I6,N9])) ?_ ?_)))))
 ·refine B4 (sr 3 rfl (ix rfl (D8 (v:=ag [.func (.func 113) #[pt pb 0] #[]]) (us:=[.func (.func 113) #[pt pb 0] #[]]) Tryz.underlying180 D7b rfl rfl rfl 1 rfl (by decide) rfl rfl rfl) ?_))
  refine M8 2 0 [0] (fun b12=>[(9,pt b12 0)]) (fun b12=>(bx b12 [.func (.func 113) #[pt pb 0] #[]] 179::obx b2 beststyle bestlr bestl.length bestat::bx b1 (C3 r) 126::pbx pb pheldStyle plr pl.length pat::(vo A0 26 plr pl)++((vo A0 26 bestlr bestl)++([])))) (fun b12=>?_)
  refine ie (sr 11 rfl (zrl 4 7 [0,2] [(29,.func (.func 113) #[pt pb 0] #[]),(30,ag (C3 r)),(31,bv last)] ?_))
  have hQ:=D0 hR;clear hR;obtain ⟨y3,hy3,hR⟩:=hQ
  refine it rfl (G8 (L2:=(bx b12 [.func (.func 113) #[pt pb 0] #[]] 179::obx b2 beststyle bestlr bestl.length bestat::bx b1 (C3 r) 126::(vo A0 26 bestlr bestl)++([]))) (B0m pheldStyle pl pat r last pb plr hokplr (by first|assumption|exact hel _ (List.mem_cons_self ..)|omega) y3 hy3) rfl rfl rfl rfl rfl A2.refl (F8 [[bx b12 [.func (.func 113) #[pt pb 0] #[]] 179],[obx b2 beststyle bestlr bestl.length bestat],[bx b1 (C3 r) 126],[pbx pb pheldStyle plr pl.length pat],vo A0 26 plr pl,vo A0 26 bestlr bestl] [3,4,0,1,2,5] 6 rfl (by decide) rfl [[pbx pb pheldStyle plr pl.length pat],vo A0 26 plr pl,[bx b12 [.func (.func 113) #[pt pb 0] #[]] 179],[obx b2 beststyle bestlr bestl.length bestat],[bx b1 (C3 r) 126],vo A0 26 bestlr bestl] rfl (by first|rfl|simp)) (fun ⟨r13,hk14⟩=>(bx b12 [.func (.func 113) #[pt pb 0] #[]] 179::obx b2 beststyle bestlr bestl.length bestat::bx b1 (C3 r) 126::pbx pb pheldStyle plr pl.length pat::(vo A0 26 plr pl)++((vo A0 26 bestlr bestl)++((vo A0 26 r13 y3.1)++([]))))) (fun ⟨r13,hk14⟩=>F8 [[pbx pb pheldStyle plr pl.length pat],vo A0 26 plr pl,vo A0 26 r13 y3.1,[bx b12 [.func (.func 113) #[pt pb 0] #[]] 179],[obx b2 beststyle bestlr bestl.length bestat],[bx b1 (C3 r) 126],vo A0 26 bestlr bestl] [3,4,5,0,1,6,2] 7 rfl (by decide) (by first|rfl|simp) [[bx b12 [.func (.func 113) #[pt pb 0] #[]] 179],[obx b2 beststyle bestlr bestl.length bestat],[bx b1 (C3 r) 126],[pbx pb pheldStyle plr pl.length pat],vo A0 26 plr pl,vo A0 26 bestlr bestl,vo A0 26 r13 y3.1] rfl (by first|rfl|simp))) fun ⟨r13,hk14⟩=>?_
  have:=VOk.le hk14
  have:=VOk.cap hk14
  have:=A0d pheldStyle pl pat r last;try rw [hy3] at this
  obtain ⟨_,_⟩:=this
  refine M8 6 0 [0] (fun b15=>[(10,pt b15 0),(11,bv y3.2.2.2)]) (fun b15=>(obx b15 y3.2.1 r13 y3.1.length y3.2.2.1::bx b12 [.func (.func 113) #[pt pb 0] #[]] 179::obx b2 beststyle bestlr bestl.length bestat::bx b1 (C3 r) 126::pbx pb pheldStyle plr pl.length pat::(vo A0 26 plr pl)++((vo A0 26 bestlr bestl)++((vo A0 26 r13 y3.1)++([]))))) (fun b15=>?_)
  refine ie (sr 8 rfl (zrl 2 6 [0] [(37,.slice (va r13.q) y3.1.length r13.k)] ?_))
  have:=VOk.cap hk14
  have:=VOk.le hk14
  have hQ:=D0 hR;clear hR;obtain ⟨y7,hy7,hR⟩:=hQ
  refine it rfl (G8 (L2:=(obx b15 y3.2.1 r13 y3.1.length y3.2.2.1::bx b12 [.func (.func 113) #[pt pb 0] #[]] 179::obx b2 beststyle bestlr bestl.length bestat::bx b1 (C3 r) 126::pbx pb pheldStyle plr pl.length pat::(vo A0 26 plr pl)++((vo A0 26 bestlr bestl)++([])))) (Con.lend (T:=26) hk14 (A9c y3.1 (va r13.q) r13.k (by first|omega|(simp<;>omega)|(dsimp only;omega)|decide) (by first|omega|(simp<;>omega)|(dsimp only;omega)|decide) (by first|exact fun x hx=>by rw [(hpen x hx).2];exact Nat.zero_le _|exact fun x hx=>hnt x hx|assumption|decide|exact fun x hx=>Nat.le_trans (hrow x hx) (by decide)|exact fun x hx=>Nat.le_trans (of_decide_eq_true (List.all_eq_true.1 hbt x hx)) (by decide)|(intro x hx;simp only [List.nil_append,List.mem_append] at hx;rcases hx with hx|hx<;>first|exact Nat.le_trans (hrow x hx) (by decide)|exact Nat.le_trans (hpt x hx) (by decide))|(intro x hx;rw [List.mem_singleton.1 hx];omega)|exact fun x hx=>Nat.le_trans (hrow x (List.mem_of_mem_take hx)) (by decide)|exact fun x hx=>Nat.le_trans (hrow x (List.mem_of_mem_drop hx)) (by decide)|exact fun x hx=>Nat.le_trans (hrow x (List.mem_of_mem_drop (List.mem_of_mem_take hx))) (by decide)|omega) y7 hy7)) rfl rfl rfl rfl rfl A2.refl (F8 [[obx b15 y3.2.1 r13 y3.1.length y3.2.2.1],[bx b12 [.func (.func 113) #[pt pb 0] #[]] 179],[obx b2 beststyle bestlr bestl.length bestat],[bx b1 (C3 r) 126],[pbx pb pheldStyle plr pl.length pat],vo A0 26 plr pl,vo A0 26 bestlr bestl,vo A0 26 r13 y3.1] [7,0,1,2,3,4,5,6] 8 rfl (by decide) rfl [vo A0 26 r13 y3.1,[obx b15 y3.2.1 r13 y3.1.length y3.2.2.1],[bx b12 [.func (.func 113) #[pt pb 0] #[]] 179],[obx b2 beststyle bestlr bestl.length bestat],[bx b1 (C3 r) 126],[pbx pb pheldStyle plr pl.length pat],vo A0 26 plr pl,vo A0 26 bestlr bestl] rfl (by first|rfl|simp)) (fun ⟨r16,hk17⟩=>(obx b15 y3.2.1 r13 y3.1.length y3.2.2.1::bx b12 [.func (.func 113) #[pt pb 0] #[]] 179::obx b2 beststyle bestlr bestl.length bestat::bx b1 (C3 r) 126::pbx pb pheldStyle plr pl.length pat::(vo A0 26 plr pl)++((vo A0 26 bestlr bestl)++((vo A0 26 r13 y3.1)++((vo cU8 5 r16 y7.1)++([])))))) (fun ⟨r16,hk17⟩=>F8 [vo A0 26 r13 y3.1,vo cU8 5 r16 y7.1,[obx b15 y3.2.1 r13 y3.1.length y3.2.2.1],[bx b12 [.func (.func 113) #[pt pb 0] #[]] 179],[obx b2 beststyle bestlr bestl.length bestat],[bx b1 (C3 r) 126],[pbx pb pheldStyle plr pl.length pat],vo A0 26 plr pl,vo A0 26 bestlr bestl] [2,3,4,5,6,7,8,0,1] 9 rfl (by decide) (by first|rfl|simp) [[obx b15 y3.2.1 r13 y3.1.length y3.2.2.1],[bx b12 [.func (.func 113) #[pt pb 0] #[]] 179],[obx b2 beststyle bestlr bestl.length bestat],[bx b1 (C3 r) 126],[pbx pb pheldStyle plr pl.length pat],vo A0 26 plr pl,vo A0 26 bestlr bestl,vo A0 26 r13 y3.1,vo cU8 5 r16 y7.1] rfl (by first|rfl|simp))) fun ⟨r16,hk17⟩=>?_
  have:=VOk.le hk17
  have:=VOk.cap hk17
  try have:=A6b y3.1 (fun x hx=>Nat.le_trans (hrow x (by first|exact hx|exact List.mem_of_mem_take hx|exact List.mem_of_mem_drop hx)) (by decide));try rw [hy7] at this
  refine ip' 5 0 [(12,.slice (va r16.q) y7.1.length r16.k),(13,iv y7.2)] (ie (A8 (sr 16 rfl (ip' 3 13 [(43,bv (!y3.2.2.2))] ?_))))
  refine zio 3 10 43 46 (!decide (y7.2=0)) (fun g18=>?_) ?_
  ·refine ip' 3 0 [(46,bv (!decide (y7.2=0)))] ?_
   exact A7 (U9 2 43 46 g18 A2.refl (mc [[obx b15 y3.2.1 r13 y3.1.length y3.2.2.1],[bx b12 [.func (.func 113) #[pt pb 0] #[]] 179],[obx b2 beststyle bestlr bestl.length bestat],[bx b1 (C3 r) 126],[pbx pb pheldStyle plr pl.length pat],vo A0 26 plr pl,vo A0 26 bestlr bestl,vo A0 26 r13 y3.1,vo cU8 5 r16 y7.1] [true,true,true,true,true,true,true,true,true] (by first|rfl|simp) (by first|rfl|(simp only [List.length_set]<;>rfl))) rfl rfl rfl rfl rfl)
  refine ip' 1 9 [(47,bv ((!y3.2.2.2)||(!decide (y7.2=0))))] ?_
  refine zio 9 0 47 56 ((decide ((0:Int)≤cost))&&(decide (cost≤(y7.1.length:Int)))) (fun g19=>?_) ?_
  ·have g19p:=g19;try simp at g19p
   refine ip' 3 6 [(50,bv (decide ((0:Int)≤cost)))] ?_
   refine zid 5 1 50 55 (decide (cost≤(y7.1.length:Int))) (fun g20 g20p=>?_) ?_
   ·refine ip' 5 0 [(55,bv (decide (cost≤(y7.1.length:Int))))] ?_
    exact A7 (U9 2 50 55 g20 A2.refl (mc [[obx b15 y3.2.1 r13 y3.1.length y3.2.2.1],[bx b12 [.func (.func 113) #[pt pb 0] #[]] 179],[obx b2 beststyle bestlr bestl.length bestat],[bx b1 (C3 r) 126],[pbx pb pheldStyle plr pl.length pat],vo A0 26 plr pl,vo A0 26 bestlr bestl,vo A0 26 r13 y3.1,vo cU8 5 r16 y7.1] [true,true,true,true,true,true,true,true,true] (by first|rfl|simp) (by first|rfl|(simp only [List.length_set]<;>rfl))) rfl rfl rfl rfl rfl)
   refine ip' 1 0 [(56,bv ((decide ((0:Int)≤cost))&&(decide (cost≤(y7.1.length:Int)))))] ?_
   exact A7 (U9 4 47 56 g19 A2.refl (mc [[obx b15 y3.2.1 r13 y3.1.length y3.2.2.1],[bx b12 [.func (.func 113) #[pt pb 0] #[]] 179],[obx b2 beststyle bestlr bestl.length bestat],[bx b1 (C3 r) 126],[pbx pb pheldStyle plr pl.length pat],vo A0 26 plr pl,vo A0 26 bestlr bestl,vo A0 26 r13 y3.1,vo cU8 5 r16 y7.1] [true,true,true,true,true,true,true,true,true] (by first|rfl|simp) (by first|rfl|(simp only [List.length_set]<;>rfl))) rfl rfl rfl rfl rfl)
  refine ie ?_
  refine zjb rfl hR ?_ ?_<;>clear hR<;>intro hR h21
  ·have h21p:=h21;try simp at h21p
   refine H7 ?_
   exact D5s cost bestl bestlr beststyle bestat ⟨hR,hokbestlr,(by first|assumption|exact Nat.zero_le _)⟩ (mc [[obx b15 y3.2.1 r13 y3.1.length y3.2.2.1],[bx b12 [.func (.func 113) #[pt pb 0] #[]] 179],[obx b2 beststyle bestlr bestl.length bestat],[bx b1 (C3 r) 126],[pbx pb pheldStyle plr pl.length pat],vo A0 26 plr pl,vo A0 26 bestlr bestl,vo A0 26 r13 y3.1,vo cU8 5 r16 y7.1] [false,false,true,true,true,true,true,false,false] (by first|rfl|simp) (by first|rfl|(simp only [List.length_set]<;>rfl))) A2.refl
  have h21p:=h21;try simp at h21p
  refine B1 (nx (A5 5 rfl (zrg 5 0 [0,2] [(7,iv (y7.1.length:Int))] (obx b15 y3.2.1 r13 y3.1.length y3.2.2.1::bx b12 [.func (.func 113) #[pt pb 0] #[]] 179::obx b2 y3.2.1 r13 y3.1.length y3.2.2.1::bx b1 (C3 r) 126::pbx pb pheldStyle plr pl.length pat::(vo A0 26 plr pl)++((vo A0 26 bestlr bestl)++((vo A0 26 r13 y3.1)++((vo cU8 5 r16 y7.1)++([]))))) (A7 ?_))))
  exact D5s (y7.1.length:Int) y3.1 r13 y3.2.1 y3.2.2.1 ⟨hR,hk14,(by first|assumption|exact Nat.zero_le _)⟩ (mc [[obx b15 y3.2.1 r13 y3.1.length y3.2.2.1],[bx b12 [.func (.func 113) #[pt pb 0] #[]] 179],[obx b2 y3.2.1 r13 y3.1.length y3.2.2.1],[bx b1 (C3 r) 126],[pbx pb pheldStyle plr pl.length pat],vo A0 26 plr pl,vo A0 26 bestlr bestl,vo A0 26 r13 y3.1,vo cU8 5 r16 y7.1] [false,false,true,true,true,true,false,true,false] (by first|rfl|simp) (by first|rfl|(simp only [List.length_set]<;>rfl))) A2.refl
 intro cost1 bestl1 bestlr1 beststyle1 bestat1
 rintro ⟨hR,hokbestlr1,hb4⟩
 replace hR:=(J3.eq_1 ..).symm.trans hR
 refine A5 2 rfl (ix rfl (B7 (c:=2) rfl rfl rfl rfl (by decide)) (ip' 1 0 [(24,iv 2)] (A7 (D7 (sr 1 rfl (ip' 1 0 [(25,bv true)] ?_))))))
 refine ie (A8 (K1 rfl (B1 (nx (E3h (fun (cost2:Int) (bestl2:List Act) (bestlr2:VR) (beststyle2:Sty) (bestat2:Int)=>(K4 pl cost2 bestl2 beststyle2 bestat2=R∧VOk 6 bestl2.length bestlr2∧bestl2.length≤322,[(0,pt pb 0),(2,bv last),(4,pt b1 0),(6,pt b2 0),(7,iv cost2),(23,ag [.func (.func 112) #[pt pb 0] #[],.func (.func 113) #[pt pb 0] #[],.func (.func 114) #[pt pb 0] #[]]),(24,iv 2)],(obx b2 beststyle2 bestlr2 bestl2.length bestat2::bx b1 (C3 r) 126::pbx pb pheldStyle plr pl.length pat::(vo A0 26 plr pl)++((vo A0 26 bestlr2 bestl2)++([]))),[A1y,A1z,M9,M1,I6,N9])) ?_ ?_)))))
 ·refine B4 (sr 3 rfl (ix rfl (D8 (v:=ag [.func (.func 114) #[pt pb 0] #[]]) (us:=[.func (.func 114) #[pt pb 0] #[]]) Tryz.underlying180 D7b rfl rfl rfl 2 rfl (by decide) rfl rfl rfl) ?_))
  refine M8 2 0 [0] (fun b22=>[(9,pt b22 0)]) (fun b22=>(bx b22 [.func (.func 114) #[pt pb 0] #[]] 179::obx b2 beststyle1 bestlr1 bestl1.length bestat1::bx b1 (C3 r) 126::pbx pb pheldStyle plr pl.length pat::(vo A0 26 plr pl)++((vo A0 26 bestlr1 bestl1)++([])))) (fun b22=>?_)
  refine ie (sr 11 rfl (zrl 4 7 [0,2] [(29,.func (.func 114) #[pt pb 0] #[]),(30,ag (C3 r)),(31,bv last)] ?_))
  have hQ:=D0 hR;clear hR;obtain ⟨y2,hy2,hR⟩:=hQ
  refine it rfl (G8 (L2:=(bx b22 [.func (.func 114) #[pt pb 0] #[]] 179::obx b2 beststyle1 bestlr1 bestl1.length bestat1::bx b1 (C3 r) 126::(vo A0 26 bestlr1 bestl1)++([]))) (B1u pheldStyle pl pat r last pb plr hokplr (by first|assumption|exact hel _ (List.mem_cons_self ..)|omega) y2 hy2) rfl rfl rfl rfl rfl A2.refl (F8 [[bx b22 [.func (.func 114) #[pt pb 0] #[]] 179],[obx b2 beststyle1 bestlr1 bestl1.length bestat1],[bx b1 (C3 r) 126],[pbx pb pheldStyle plr pl.length pat],vo A0 26 plr pl,vo A0 26 bestlr1 bestl1] [3,4,0,1,2,5] 6 rfl (by decide) rfl [[pbx pb pheldStyle plr pl.length pat],vo A0 26 plr pl,[bx b22 [.func (.func 114) #[pt pb 0] #[]] 179],[obx b2 beststyle1 bestlr1 bestl1.length bestat1],[bx b1 (C3 r) 126],vo A0 26 bestlr1 bestl1] rfl (by first|rfl|simp)) (fun ⟨r23,hk24⟩=>(bx b22 [.func (.func 114) #[pt pb 0] #[]] 179::obx b2 beststyle1 bestlr1 bestl1.length bestat1::bx b1 (C3 r) 126::pbx pb pheldStyle plr pl.length pat::(vo A0 26 plr pl)++((vo A0 26 bestlr1 bestl1)++((vo A0 26 r23 y2.1)++([]))))) (fun ⟨r23,hk24⟩=>F8 [[pbx pb pheldStyle plr pl.length pat],vo A0 26 plr pl,vo A0 26 r23 y2.1,[bx b22 [.func (.func 114) #[pt pb 0] #[]] 179],[obx b2 beststyle1 bestlr1 bestl1.length bestat1],[bx b1 (C3 r) 126],vo A0 26 bestlr1 bestl1] [3,4,5,0,1,6,2] 7 rfl (by decide) (by first|rfl|simp) [[bx b22 [.func (.func 114) #[pt pb 0] #[]] 179],[obx b2 beststyle1 bestlr1 bestl1.length bestat1],[bx b1 (C3 r) 126],[pbx pb pheldStyle plr pl.length pat],vo A0 26 plr pl,vo A0 26 bestlr1 bestl1,vo A0 26 r23 y2.1] rfl (by first|rfl|simp))) fun ⟨r23,hk24⟩=>?_
  have:=VOk.le hk24
  have:=VOk.cap hk24
  have:=A0k pheldStyle pl pat r last;try rw [hy2] at this
  obtain ⟨_,_⟩:=this
  refine M8 6 0 [0] (fun b25=>[(10,pt b25 0),(11,bv y2.2.2.2)]) (fun b25=>(obx b25 y2.2.1 r23 y2.1.length y2.2.2.1::bx b22 [.func (.func 114) #[pt pb 0] #[]] 179::obx b2 beststyle1 bestlr1 bestl1.length bestat1::bx b1 (C3 r) 126::pbx pb pheldStyle plr pl.length pat::(vo A0 26 plr pl)++((vo A0 26 bestlr1 bestl1)++((vo A0 26 r23 y2.1)++([]))))) (fun b25=>?_)
  refine ie (sr 8 rfl (zrl 2 6 [0] [(37,.slice (va r23.q) y2.1.length r23.k)] ?_))
  have:=VOk.cap hk24
  have:=VOk.le hk24
  have hQ:=D0 hR;clear hR;obtain ⟨y6,hy6,hR⟩:=hQ
  refine it rfl (G8 (L2:=(obx b25 y2.2.1 r23 y2.1.length y2.2.2.1::bx b22 [.func (.func 114) #[pt pb 0] #[]] 179::obx b2 beststyle1 bestlr1 bestl1.length bestat1::bx b1 (C3 r) 126::pbx pb pheldStyle plr pl.length pat::(vo A0 26 plr pl)++((vo A0 26 bestlr1 bestl1)++([])))) (Con.lend (T:=26) hk24 (A9c y2.1 (va r23.q) r23.k (by first|omega|(simp<;>omega)|(dsimp only;omega)|decide) (by first|omega|(simp<;>omega)|(dsimp only;omega)|decide) (by first|exact fun x hx=>by rw [(hpen x hx).2];exact Nat.zero_le _|exact fun x hx=>hnt x hx|assumption|decide|exact fun x hx=>Nat.le_trans (hrow x hx) (by decide)|exact fun x hx=>Nat.le_trans (of_decide_eq_true (List.all_eq_true.1 hbt x hx)) (by decide)|(intro x hx;simp only [List.nil_append,List.mem_append] at hx;rcases hx with hx|hx<;>first|exact Nat.le_trans (hrow x hx) (by decide)|exact Nat.le_trans (hpt x hx) (by decide))|(intro x hx;rw [List.mem_singleton.1 hx];omega)|exact fun x hx=>Nat.le_trans (hrow x (List.mem_of_mem_take hx)) (by decide)|exact fun x hx=>Nat.le_trans (hrow x (List.mem_of_mem_drop hx)) (by decide)|exact fun x hx=>Nat.le_trans (hrow x (List.mem_of_mem_drop (List.mem_of_mem_take hx))) (by decide)|omega) y6 hy6)) rfl rfl rfl rfl rfl A2.refl (F8 [[obx b25 y2.2.1 r23 y2.1.length y2.2.2.1],[bx b22 [.func (.func 114) #[pt pb 0] #[]] 179],[obx b2 beststyle1 bestlr1 bestl1.length bestat1],[bx b1 (C3 r) 126],[pbx pb pheldStyle plr pl.length pat],vo A0 26 plr pl,vo A0 26 bestlr1 bestl1,vo A0 26 r23 y2.1] [7,0,1,2,3,4,5,6] 8 rfl (by decide) rfl [vo A0 26 r23 y2.1,[obx b25 y2.2.1 r23 y2.1.length y2.2.2.1],[bx b22 [.func (.func 114) #[pt pb 0] #[]] 179],[obx b2 beststyle1 bestlr1 bestl1.length bestat1],[bx b1 (C3 r) 126],[pbx pb pheldStyle plr pl.length pat],vo A0 26 plr pl,vo A0 26 bestlr1 bestl1] rfl (by first|rfl|simp)) (fun ⟨r26,hk27⟩=>(obx b25 y2.2.1 r23 y2.1.length y2.2.2.1::bx b22 [.func (.func 114) #[pt pb 0] #[]] 179::obx b2 beststyle1 bestlr1 bestl1.length bestat1::bx b1 (C3 r) 126::pbx pb pheldStyle plr pl.length pat::(vo A0 26 plr pl)++((vo A0 26 bestlr1 bestl1)++((vo A0 26 r23 y2.1)++((vo cU8 5 r26 y6.1)++([])))))) (fun ⟨r26,hk27⟩=>F8 [vo A0 26 r23 y2.1,vo cU8 5 r26 y6.1,[obx b25 y2.2.1 r23 y2.1.length y2.2.2.1],[bx b22 [.func (.func 114) #[pt pb 0] #[]] 179],[obx b2 beststyle1 bestlr1 bestl1.length bestat1],[bx b1 (C3 r) 126],[pbx pb pheldStyle plr pl.length pat],vo A0 26 plr pl,vo A0 26 bestlr1 bestl1] [2,3,4,5,6,7,8,0,1] 9 rfl (by decide) (by first|rfl|simp) [[obx b25 y2.2.1 r23 y2.1.length y2.2.2.1],[bx b22 [.func (.func 114) #[pt pb 0] #[]] 179],[obx b2 beststyle1 bestlr1 bestl1.length bestat1],[bx b1 (C3 r) 126],[pbx pb pheldStyle plr pl.length pat],vo A0 26 plr pl,vo A0 26 bestlr1 bestl1,vo A0 26 r23 y2.1,vo cU8 5 r26 y6.1] rfl (by first|rfl|simp))) fun ⟨r26,hk27⟩=>?_
  have:=VOk.le hk27
  have:=VOk.cap hk27
  try have:=A6b y2.1 (fun x hx=>Nat.le_trans (hrow x (by first|exact hx|exact List.mem_of_mem_take hx|exact List.mem_of_mem_drop hx)) (by decide));try rw [hy6] at this
  refine ip' 5 0 [(12,.slice (va r26.q) y6.1.length r26.k),(13,iv y6.2)] (ie (A8 (sr 16 rfl (ip' 3 13 [(43,bv (!y2.2.2.2))] ?_))))
  refine zio 3 10 43 46 (!decide (y6.2=0)) (fun g28=>?_) ?_
  ·refine ip' 3 0 [(46,bv (!decide (y6.2=0)))] ?_
   exact A7 (U9 2 43 46 g28 A2.refl (mc [[obx b25 y2.2.1 r23 y2.1.length y2.2.2.1],[bx b22 [.func (.func 114) #[pt pb 0] #[]] 179],[obx b2 beststyle1 bestlr1 bestl1.length bestat1],[bx b1 (C3 r) 126],[pbx pb pheldStyle plr pl.length pat],vo A0 26 plr pl,vo A0 26 bestlr1 bestl1,vo A0 26 r23 y2.1,vo cU8 5 r26 y6.1] [true,true,true,true,true,true,true,true,true] (by first|rfl|simp) (by first|rfl|(simp only [List.length_set]<;>rfl))) rfl rfl rfl rfl rfl)
  refine ip' 1 9 [(47,bv ((!y2.2.2.2)||(!decide (y6.2=0))))] ?_
  refine zio 9 0 47 56 ((decide ((0:Int)≤cost1))&&(decide (cost1≤(y6.1.length:Int)))) (fun g29=>?_) ?_
  ·have g29p:=g29;try simp at g29p
   refine ip' 3 6 [(50,bv (decide ((0:Int)≤cost1)))] ?_
   refine zid 5 1 50 55 (decide (cost1≤(y6.1.length:Int))) (fun g30 g30p=>?_) ?_
   ·refine ip' 5 0 [(55,bv (decide (cost1≤(y6.1.length:Int))))] ?_
    exact A7 (U9 2 50 55 g30 A2.refl (mc [[obx b25 y2.2.1 r23 y2.1.length y2.2.2.1],[bx b22 [.func (.func 114) #[pt pb 0] #[]] 179],[obx b2 beststyle1 bestlr1 bestl1.length bestat1],[bx b1 (C3 r) 126],[pbx pb pheldStyle plr pl.length pat],vo A0 26 plr pl,vo A0 26 bestlr1 bestl1,vo A0 26 r23 y2.1,vo cU8 5 r26 y6.1] [true,true,true,true,true,true,true,true,true] (by first|rfl|simp) (by first|rfl|(simp only [List.length_set]<;>rfl))) rfl rfl rfl rfl rfl)
   refine ip' 1 0 [(56,bv ((decide ((0:Int)≤cost1))&&(decide (cost1≤(y6.1.length:Int)))))] ?_
   exact A7 (U9 4 47 56 g29 A2.refl (mc [[obx b25 y2.2.1 r23 y2.1.length y2.2.2.1],[bx b22 [.func (.func 114) #[pt pb 0] #[]] 179],[obx b2 beststyle1 bestlr1 bestl1.length bestat1],[bx b1 (C3 r) 126],[pbx pb pheldStyle plr pl.length pat],vo A0 26 plr pl,vo A0 26 bestlr1 bestl1,vo A0 26 r23 y2.1,vo cU8 5 r26 y6.1] [true,true,true,true,true,true,true,true,true] (by first|rfl|simp) (by first|rfl|(simp only [List.length_set]<;>rfl))) rfl rfl rfl rfl rfl)
  refine ie ?_
  refine zjb rfl hR ?_ ?_<;>clear hR<;>intro hR h31
  ·have h31p:=h31;try simp at h31p
   refine H7 ?_
   exact D5s cost1 bestl1 bestlr1 beststyle1 bestat1 ⟨hR,hokbestlr1,(by first|assumption|exact Nat.zero_le _)⟩ (mc [[obx b25 y2.2.1 r23 y2.1.length y2.2.2.1],[bx b22 [.func (.func 114) #[pt pb 0] #[]] 179],[obx b2 beststyle1 bestlr1 bestl1.length bestat1],[bx b1 (C3 r) 126],[pbx pb pheldStyle plr pl.length pat],vo A0 26 plr pl,vo A0 26 bestlr1 bestl1,vo A0 26 r23 y2.1,vo cU8 5 r26 y6.1] [false,false,true,true,true,true,true,false,false] (by first|rfl|simp) (by first|rfl|(simp only [List.length_set]<;>rfl))) A2.refl
  have h31p:=h31;try simp at h31p
  refine B1 (nx (A5 5 rfl (zrg 5 0 [0,2] [(7,iv (y6.1.length:Int))] (obx b25 y2.2.1 r23 y2.1.length y2.2.2.1::bx b22 [.func (.func 114) #[pt pb 0] #[]] 179::obx b2 y2.2.1 r23 y2.1.length y2.2.2.1::bx b1 (C3 r) 126::pbx pb pheldStyle plr pl.length pat::(vo A0 26 plr pl)++((vo A0 26 bestlr1 bestl1)++((vo A0 26 r23 y2.1)++((vo cU8 5 r26 y6.1)++([]))))) (A7 ?_))))
  exact D5s (y6.1.length:Int) y2.1 r23 y2.2.1 y2.2.2.1 ⟨hR,hk24,(by first|assumption|exact Nat.zero_le _)⟩ (mc [[obx b25 y2.2.1 r23 y2.1.length y2.2.2.1],[bx b22 [.func (.func 114) #[pt pb 0] #[]] 179],[obx b2 y2.2.1 r23 y2.1.length y2.2.2.1],[bx b1 (C3 r) 126],[pbx pb pheldStyle plr pl.length pat],vo A0 26 plr pl,vo A0 26 bestlr1 bestl1,vo A0 26 r23 y2.1,vo cU8 5 r26 y6.1] [false,false,true,true,true,true,false,true,false] (by first|rfl|simp) (by first|rfl|(simp only [List.length_set]<;>rfl))) A2.refl
 intro cost2 bestl2 bestlr2 beststyle2 bestat2
 rintro ⟨hR,hokbestlr2,hb5⟩
 replace hR:=(K4.eq_1 ..).symm.trans hR
 refine A5 2 rfl (ix rfl (B7 (c:=3) rfl rfl rfl rfl (by decide)) (ip' 1 0 [(24,iv 3)] (A7 (D7 (sr 1 rfl (ip' 1 0 [(25,bv false)] (ie (A8 (A4y rfl (H7 (nx ?_)))))))))))
 have:=VOk.cap hokbestlr2
 have:=VOk.le hokbestlr2
 refine E2x (obx b2 beststyle2 bestlr2 bestl2.length bestat2::bx b1 (C3 r) 126::pbx pb pheldStyle plr pl.length pat::(vo A0 26 plr pl)++([])) [] (T:=26) (c:=A0) (r:=bestlr2) (xs:=bestl2) hokbestlr2 (by first|rfl|simp) ?_
 refine E6m (L':=(obx b2 beststyle2 bestlr2 bestl2.length bestat2::bx b1 (C3 r) 126::pbx pb pheldStyle plr pl.length pat::(vo A0 26 plr pl)++([]))) (by first|rfl|simp) ?_
 refine sh' 24 [(24,[obx b2 beststyle2 bestlr2 bestl2.length bestat2]),(24,[bx b1 (C3 r) 126]),(16,[pbx pb pheldStyle plr pl.length pat]),(9,vo A0 26 plr pl)] [sl A0 (va bestlr2.q) bestl2,A1y,A1z,M9,M1,I6,N9] (obx b2 beststyle2 bestlr2 bestl2.length bestat2::bx b1 (C3 r) 126::pbx pb pheldStyle plr pl.length pat::(vo A0 26 plr pl)++([])) (zml 24 0) (by kernel_rfl) rfl (by kernel_rfl) (by kernel_rfl) (by kernel_rfl) (mc [[obx b2 beststyle2 bestlr2 bestl2.length bestat2],[bx b1 (C3 r) 126],[pbx pb pheldStyle plr pl.length pat],vo A0 26 plr pl] [true,true,true,true] (by first|rfl|simp) (by first|rfl|(simp only [List.length_set]<;>rfl))) A2.refl ?_
 refine zhp [0,1,2,3,4,5,7,10,12] 15 (zml 24 5311) [(61,pt pb 0),(62,pt pb 0),(63,pt pb 0),(66,pt pb 8),(68,pt b2 0),(71,pt b2 1),(73,pt b2 9)] ?_
 refine zhl 6 (obx b2 beststyle2 bestlr2 bestl2.length bestat2::bx b1 (C3 r) 126::pbx pb pheldStyle plr pl.length pat::(vo A0 26 plr pl)++([])) (zml 24 5375) rfl (B2 (v:=.slice (va plr.q) pl.length plr.k) D0q rfl rfl 2 rfl rfl) ?_
 refine zhl 8 (obx b2 beststyle2 bestlr2 bestl2.length bestat2::bx b1 (C3 r) 126::pbx pb pheldStyle plr pl.length pat::(vo A0 26 plr pl)++([])) (zml 24 5631) rfl (B2 (v:=.slice (va bestlr2.q) bestl2.length bestlr2.k) D0q rfl rfl 0 rfl rfl) ?_
 refine zhl 11 [obx b2 beststyle2 bestlr2 bestl2.length bestat2,bx b1 (C3 r) 126] (zml 24 7679) rfl (F6 (us:=[iv beststyle2.attr,iv beststyle2.under,iv beststyle2.fore.kind,iv beststyle2.fore.n,iv beststyle2.back.kind,iv beststyle2.back.n,iv beststyle2.line.kind,iv beststyle2.line.n]) B5d rfl rfl 0 rfl rfl rfl) ?_
 refine zhl 13 [obx b2 beststyle2 bestlr2 bestl2.length bestat2,bx b1 (C3 r) 126] (zml 24 15871) rfl (B2 (v:=iv bestat2) ty3 rfl rfl 0 rfl rfl) ?_
 refine zho 9 [obx b2 beststyle2 bestlr2 bestl2.length bestat2,bx b1 (C3 r) 126,pbx pb pheldStyle plr pl.length pat] (zml 24 16383) rfl (B8q (f:=A0) (r:=plr) (xs:=pl) (ys:=bestl2) (pre:=[obx b2 beststyle2 bestlr2 bestl2.length bestat2,bx b1 (C3 r) 126,pbx pb pheldStyle plr pl.length pat]) (post:=[]) B0y (fun _=>rfl) (fun _=>rfl) rfl rfl rfl rfl rfl rfl rfl rfl (B0 0 rfl) hokplr (by first|omega|(simp<;>omega)) (by first|omega|(simp<;>omega))) (fun ⟨r32,hr33⟩=>(mc [[obx b2 beststyle2 bestlr2 bestl2.length bestat2],[bx b1 (C3 r) 126],[pbx pb pheldStyle plr pl.length pat],vo A0 26 r32 (pl++bestl2)] [true,true,true,false] (by first|rfl|simp) (by first|rfl|(simp only [List.length_set]<;>rfl)))) (fun ⟨r32,hr33⟩=>A2.refl) fun ⟨r32,hr33⟩=>?_
 have:=@List.length_append _ pl bestl2
 have:=VOk.le hr33
 have:=VOk.cap hr33
 refine zhp [14,15] 8 (zml 24 65535) [(76,pt pb 8)] ?_
 refine zho 16 [obx b2 beststyle2 bestlr2 bestl2.length bestat2,bx b1 (C3 r) 126] (zml 24 131071) rfl (N4 (us:=[.slice (va r32.q) ((pl++bestl2).length) r32.k]) (cs':=[iv pheldStyle.attr,iv pheldStyle.under,iv pheldStyle.fore.kind,iv pheldStyle.fore.n,iv pheldStyle.back.kind,iv pheldStyle.back.n,iv pheldStyle.line.kind,iv pheldStyle.line.n,.slice (va r32.q) ((pl++bestl2).length) r32.k,iv pat]) D0q rfl rfl rfl 2 rfl rfl rfl rfl rfl rfl) (fun _=>(mc [[obx b2 beststyle2 bestlr2 bestl2.length bestat2],[bx b1 (C3 r) 126],[bx pb [iv pheldStyle.attr,iv pheldStyle.under,iv pheldStyle.fore.kind,iv pheldStyle.fore.n,iv pheldStyle.back.kind,iv pheldStyle.back.n,iv pheldStyle.line.kind,iv pheldStyle.line.n,.slice (va r32.q) ((pl++bestl2).length) r32.k,iv pat] 121],vo A0 26 r32 (pl++bestl2)] [true,true,false,false] (by first|rfl|simp) (by first|rfl|(simp only [List.length_set]<;>rfl)))) (fun _=>A2.refl) fun _=>?_
 refine zhp [17,18,19] 4 (zml 24 1048575) [(79,pt pb 0)] ?_
 refine zho 20 [obx b2 beststyle2 bestlr2 bestl2.length bestat2,bx b1 (C3 r) 126] (zml 24 2097151) rfl (N4 (us:=[iv beststyle2.attr,iv beststyle2.under,iv beststyle2.fore.kind,iv beststyle2.fore.n,iv beststyle2.back.kind,iv beststyle2.back.n,iv beststyle2.line.kind,iv beststyle2.line.n]) (cs':=[iv beststyle2.attr,iv beststyle2.under,iv beststyle2.fore.kind,iv beststyle2.fore.n,iv beststyle2.back.kind,iv beststyle2.back.n,iv beststyle2.line.kind,iv beststyle2.line.n,.slice (va r32.q) ((pl++bestl2).length) r32.k,iv pat]) B5d rfl rfl rfl 2 rfl rfl rfl rfl rfl rfl) (fun _=>(mc [[obx b2 beststyle2 bestlr2 bestl2.length bestat2],[bx b1 (C3 r) 126],[bx pb [iv beststyle2.attr,iv beststyle2.under,iv beststyle2.fore.kind,iv beststyle2.fore.n,iv beststyle2.back.kind,iv beststyle2.back.n,iv beststyle2.line.kind,iv beststyle2.line.n,.slice (va r32.q) ((pl++bestl2).length) r32.k,iv pat] 121],vo A0 26 r32 (pl++bestl2)] [true,true,false,false] (by first|rfl|simp) (by first|rfl|(simp only [List.length_set]<;>rfl)))) (fun _=>A2.refl) fun _=>?_
 refine zhp [21,22] 1 (zml 24 8388607) [(81,pt pb 9)] ?_
 refine zho 23 [obx b2 beststyle2 bestlr2 bestl2.length bestat2,bx b1 (C3 r) 126] (zml 24 16777215) rfl (N4 (us:=[iv bestat2]) (cs':=[iv beststyle2.attr,iv beststyle2.under,iv beststyle2.fore.kind,iv beststyle2.fore.n,iv beststyle2.back.kind,iv beststyle2.back.n,iv beststyle2.line.kind,iv beststyle2.line.n,.slice (va r32.q) ((pl++bestl2).length) r32.k,iv bestat2]) ty3 rfl rfl rfl 2 rfl rfl rfl rfl rfl rfl) (fun _=>(mc [[obx b2 beststyle2 bestlr2 bestl2.length bestat2],[bx b1 (C3 r) 126],[bx pb [iv beststyle2.attr,iv beststyle2.under,iv beststyle2.fore.kind,iv beststyle2.fore.n,iv beststyle2.back.kind,iv beststyle2.back.n,iv beststyle2.line.kind,iv beststyle2.line.n,.slice (va r32.q) ((pl++bestl2).length) r32.k,iv bestat2] 121],vo A0 26 r32 (pl++bestl2)] [true,true,false,false] (by first|rfl|simp) (by first|rfl|(simp only [List.length_set]<;>rfl)))) (fun _=>A2.refl) fun _=>?_
 refine B5r (by kernel_rfl) ?_
 subst hR
 exact zen hr hD (B8b rfl) ⟨r32,hr33⟩ (mc [[obx b2 beststyle2 bestlr2 bestl2.length bestat2],[bx b1 (C3 r) 126],[bx pb [iv beststyle2.attr,iv beststyle2.under,iv beststyle2.fore.kind,iv beststyle2.fore.n,iv beststyle2.back.kind,iv beststyle2.back.n,iv beststyle2.line.kind,iv beststyle2.line.n,.slice (va r32.q) ((pl++bestl2).length) r32.k,iv bestat2] 121],vo A0 26 r32 (pl++bestl2)] [false,false,true,true] (by first|rfl|simp) (by first|rfl|(simp only [List.length_set]<;>rfl))) fn0
def D9 (to_:Int):List Prn→Sty→List Act→Int→(List Act×Sty×Int×Int)
 | [],bheldStyle,bl,bat=>(bl,bheldStyle,bat,0)
 | el::rest,bheldStyle,bl,bat=>(B6 (N5 bheldStyle bl bat el (decide (el.til=to_))) fun (y5:List Act×Sty×Int)=>D9 to_ rest y5.2.1 y5.1 y5.2.2)
def R1 (cells:List Cel) (from_:Int) (to_:Int) (s:Sty) (e:Int):List Act×Sty×Int×Int :=
 (bif (!decide (e=0)) then (([]:List Act),Sty.zero,0,e) else (bif (((((decide (from_<0))||(decide (to_<from_)))||(decide ((cells.length:Int)<to_)))||((decide (from_<(cells.length:Int)))&&(decide ((cells.getD ((from_).toNat) Cel.zero).wide=2))))||((decide (to_<(cells.length:Int)))&&(decide ((cells.getD ((to_).toNat) Cel.zero).wide=2)))) then (([]:List Act),Sty.zero,0,2) else D9 to_ (R7 ((G6 cells from_ to_).1) ((G6 cells from_ to_).2.1) ((G6 cells from_ to_).2.2)) s ([]:List Act) to_))
def G7 (cells:List Cel) (from_:Int) (to_:Int) (s:Sty):List Act×Sty×Int×Int :=
 (bif (decide ((V6 cells false)=0)) then R1 cells from_ to_ s (F1 s) else R1 cells from_ to_ s (V6 cells false))
theorem B2l (to_:Int):∀ (l:List Prn) (s:Sty) (bl:List Act) (t:Int),(∀ x ∈ l,0≤x.many∧x.many≤100)→(∀ a ∈ bl,a.text.length≤100000000)→bl.length+400 * l.length≤40000→(∀ a ∈ (D9 to_ l s bl t).1,a.text.length≤100000000)∧(D9 to_ l s bl t).1.length≤40000
 | [],s,bl,t,_,h,hl=>⟨h,by simp only [List.length_nil] at hl;show bl.length≤40000;omega⟩
 | x::l,s,bl,t,hm,h,hl=>by
  rw [D9,B6]
  simp only [List.length_cons] at hl
  have hx:=hm x (List.mem_cons_self ..)
  have h1:=A6c s bl t x (decide (x.til=to_)) hx
  exact B2l to_ l _ _ _ (fun y hy=>hm y (List.mem_cons_of_mem _ hy)) (B2z s bl t x _ hx h) (by omega)
theorem B2g (cells:List Cel) (from_ to_:Int) (s:Sty) (e:Int) (he:e=0→V6 cells false=0):(∀ a ∈ (R1 cells from_ to_ s e).1,a.text.length≤100000000)∧(R1 cells from_ to_ s e).1.length≤40000∧((R1 cells from_ to_ s e).2.2.2=0→2≤cells.length∧cells.length≤80∧0≤from_∧from_≤to_∧to_≤(cells.length:Int)):=by
 unfold R1
 by_cases h0:e=0
 ·rw [decide_eq_true h0,Bool.not_true,cond_false]
  have hok:=A5u (he h0)
  cases hc:(((((decide (from_<0))||(decide (to_<from_)))||(decide ((cells.length:Int)<to_)))||((decide (from_<(cells.length:Int)))&&(decide ((cells.getD ((from_).toNat) Cel.zero).wide=2))))||((decide (to_<(cells.length:Int)))&&(decide ((cells.getD ((to_).toNat) Cel.zero).wide=2)))) with
  | true=>exact ⟨fun a ha=>(by cases ha),Nat.zero_le _,fun h=>absurd (show (2:Int)=0 from h) (by decide)⟩
  | false =>
   simp only [Bool.or_eq_false_iff,decide_eq_false_iff_not] at hc
   have hc1:=hc.1.1
   have hv:=A8h (c0:=from_) (c1:=to_) (c2:=cells) ⟨hok.2.2,hok.2.1,by omega,by omega⟩
   have h2:=B2l to_ (R7 (G6 cells from_ to_).1 (G6 cells from_ to_).2.1 (G6 cells from_ to_).2.2) s [] to_ hv.2 (fun a ha=>by cases ha) (by have:=hv.1;have e2:(R7 (G6 cells from_ to_).1 (G6 cells from_ to_).2.1 (G6 cells from_ to_).2.2)=R7 from_ to_ cells:=rfl;rw [e2,List.length_nil];omega)
   exact ⟨h2.1,h2.2,fun _=>⟨hok.1,hok.2.1,by omega,by omega,by omega⟩⟩
 ·rw [decide_eq_false h0,Bool.not_false,cond_true]
  exact ⟨fun a ha=>(by cases ha),Nat.zero_le _,fun h=>absurd h h0⟩
theorem A0z (cells:List Cel) (from_ to_:Int) (s:Sty):(∀ a ∈ (G7 cells from_ to_ s).1,a.text.length≤100000000)∧(G7 cells from_ to_ s).1.length≤40000∧((G7 cells from_ to_ s).2.2.2=0→2≤cells.length∧cells.length≤80∧0≤from_∧from_≤to_∧to_≤(cells.length:Int)):=by
 unfold G7
 by_cases h:V6 cells false=0
 ·rw [decide_eq_true h];exact B2g cells from_ to_ s _ (fun _=>h)
 ·rw [decide_eq_false h];exact B2g cells from_ to_ s _ (fun e=>e)
theorem A2d (cells:List Cel) (from_:Int) (to_:Int) (s:Sty) (cellsq:Option Addr) (cellsk:Nat) (hlcells:cells.length≤9223372036854775807) (hccells:cells.length≤cellsk) (R:List Act×Sty×Int×Int) (hR:G7 cells from_ to_ s=R):Con Tryz.prog 34 [.slice cellsq cells.length cellsk,iv from_,iv to_,ag (A4 s)] [] [sl L9 cellsq cells,A1y,A1z,M9,M1,I6,N9] ({r:VR // VOk 6 R.1.length r}) (fun x=>.tuple #[.slice (va x.1.q) R.1.length x.1.k,ag (A4 R.2.1),iv R.2.2.1,iv R.2.2.2]) (fun x=>((vo A0 26 x.1 R.1)++([]))) (fun x=>[]):=by
 refine zco Tryz.func34 [(0,.slice cellsq cells.length cellsk),(1,iv from_),(2,iv to_),(3,ag (A4 s))] fun X hX hr hD=>?_
 replace hR:=(G7.eq_1 ..).symm.trans hR
 refine sr 6 rfl (E5b 6 0 [] (fun b1 b2 b3=>[(6,pt b1 0),(7,pt b2 0),(9,pt b3 0)]) (fun b1 b2 b3=>[bx b3 (A4 Sty.zero) 67,bx b2 (A4 s) 67,bx b1 [iv to_] 3]) (fun b1 b2 b3=>(ie (sr 4 rfl (zrl 2 2 [] [(16,ag [.slice cellsq cells.length cellsk,bv false])] (zca (D0p cells false cellsq cellsk (by first|omega|(simp<;>omega)|(dsimp only;omega)|decide) (by first|omega|(simp<;>omega)|(dsimp only;omega)|decide) _ rfl) (A2.pick [0,1,2] rfl) (ip' 1 0 [(12,iv (V6 cells false))] ?_)))))))
 refine ie (D9z (fun (e:Int)=>(R1 cells from_ to_ s e=R∧(e=e∧(e=0→V6 cells false=0)),[(0,.slice cellsq cells.length cellsk),(1,iv from_),(6,pt b1 0),(7,pt b2 0),(9,pt b3 0),(12,iv e)],[bx b3 (A4 Sty.zero) 67,bx b2 (A4 s) 67,bx b1 [iv to_] 3],[sl L9 cellsq cells,A1y,A1z,M9,M1,I6,N9])) ?_ ?_)
 ·refine sr 2 rfl (ip' 2 0 [(19,bv (decide ((V6 cells false)=0)))] (ie ?_))
  refine zjd rfl hR ?_ ?_<;>clear hR<;>intro hR h4 h4p
  ·refine A5 3 rfl (zrl 1 2 [1] [(20,ag (A4 s))] (zca (A7k s _ rfl) fn0 (ip' 1 0 [(12,iv (F1 s))] (A7 ?_))))
   exact C8u (F1 s) ⟨hR,(by rfl),(by first|(intro _;assumption)|exact fun h=>h)⟩ (mk [true,true,true] rfl) A2.refl
  refine B1 ?_
  exact C8u (V6 cells false) ⟨hR,(by rfl),(by first|(intro _;assumption)|exact fun h=>h)⟩ (mk [true,true,true] rfl) A2.refl
 intro e
 rintro ⟨hR,he⟩
 replace hR:=(R1.eq_1 ..).symm.trans hR
 refine A8 (sr 2 rfl (ip' 2 0 [(23,bv (!decide (e=0)))] ?_))
 refine ie ?_
 refine zjn rfl hR ?_ ?_<;>clear hR<;>intro hR h5 h5p
 ·refine sr 6 rfl (zrg 6 0 [0] [(8,.slice none 0 0),(10,iv 0),(11,iv e)] [bx b3 (A4 Sty.zero) 67,bx b2 (A4 s) 67,bx b1 [iv to_] 3] ?_)
  subst hR
  refine ie (B5 ?_)
  exact zer hr hD (E0b rfl (C1 rfl) (F5 (us:=A4 Sty.zero) B5d rfl 0 rfl rfl rfl) (C1 rfl) (C1 rfl)) ⟨VR.nil,VOk.nil⟩ (mc [[bx b3 (A4 Sty.zero) 67],[bx b2 (A4 s) 67],[bx b1 [iv to_] 3],vo A0 26 VR.nil ([]:List Act)] [false,false,false,true] (by first|rfl|simp) (by first|rfl|(simp only [List.length_set]<;>rfl))) fn0
 refine B1 (nx (A8 (sr 41 rfl (ip' 3 38 [(28,bv (decide (from_<0)))] ?_))))
 refine zir 4 34 28 32 (decide (to_<from_)) (fun g6 g6p=>?_) ?_
 ·refine zrl 4 0 [2] [(32,bv (decide (to_<from_)))] ?_
  exact zai 2 28 32 g6
 refine ip' 1 33 [(33,bv ((decide (from_<0))||(decide (to_<from_))))] ?_
 refine zio 5 28 33 38 (decide ((cells.length:Int)<to_)) (fun g7=>?_) ?_
 ·have g7p:¬ ((from_<0)∨(to_<from_)):=by simpa using g7
  refine zrl 5 0 [2] [(38,bv (decide ((cells.length:Int)<to_)))] ?_
  exact zai 2 33 38 g7
 refine ip' 1 27 [(39,bv (((decide (from_<0))||(decide (to_<from_)))||(decide ((cells.length:Int)<to_))))] ?_
 refine zio 13 14 39 52 ((decide (from_<(cells.length:Int)))&&(decide ((cells.getD ((from_).toNat) Cel.zero).wide=2))) (fun g8=>?_) ?_
 ·have g8p:¬ (((from_<0)∨(to_<from_))∨((cells.length:Int)<to_)):=by simpa using g8
  refine ip' 5 8 [(44,bv (decide (from_<(cells.length:Int))))] ?_
  refine zid 7 1 44 51 (decide ((cells.getD ((from_).toNat) Cel.zero).wide=2)) (fun g9 g9p=>?_) ?_
  ·refine ip' 2 5 [(45,.slice cellsq cells.length cellsk),(46,iv from_)] (S9 0 rfl (by omega) fun a10 hq11=>(ix rfl (M2 B7r rfl rfl hq11 rfl ((from_).toNat) (by omega) (by omega)) (ip' 1 3 [(48,pa ((Addr.add a10 (((from_).toNat) * 12)).add 3))] (ix rfl (F3 (v:=iv ((cells.getD ((from_).toNat) Cel.zero).wide)) (us:=[iv ((cells.getD ((from_).toNat) Cel.zero).wide)]) ty3 rfl rfl (B8z (O2 (c:=L9) (sz:=12) hq11 (fun _=>rfl) 0 rfl (gd Cel.zero (by omega))) (ws:=[iv ((cells.getD ((from_).toNat) Cel.zero).wide)]) 3 1 rfl) rfl) (ip' 2 0 [(51,bv (decide ((cells.getD ((from_).toNat) Cel.zero).wide=2)))] ?_)))))
   exact zai 7 44 51 g9
  refine ip' 1 0 [(52,bv ((decide (from_<(cells.length:Int)))&&(decide ((cells.getD ((from_).toNat) Cel.zero).wide=2))))] ?_
  exact zai 4 39 52 g8
 refine ip' 1 13 [(53,bv ((((decide (from_<0))||(decide (to_<from_)))||(decide ((cells.length:Int)<to_)))||((decide (from_<(cells.length:Int)))&&(decide ((cells.getD ((from_).toNat) Cel.zero).wide=2)))))] ?_
 refine zio 13 0 53 66 ((decide (to_<(cells.length:Int)))&&(decide ((cells.getD ((to_).toNat) Cel.zero).wide=2))) (fun g12=>?_) ?_
 ·have g12p:¬ ((((from_<0)∨(to_<from_))∨((cells.length:Int)<to_))∨((from_<(cells.length:Int))∧((cells.getD ((from_).toNat) Cel.zero).wide=2))):=by simpa using g12
  refine zrl 5 8 [2] [(58,bv (decide (to_<(cells.length:Int))))] ?_
  refine zid 7 1 58 65 (decide ((cells.getD ((to_).toNat) Cel.zero).wide=2)) (fun g13 g13p=>?_) ?_
  ·refine zrl 2 5 [2] [(59,.slice cellsq cells.length cellsk),(60,iv to_)] (S9 0 rfl (by omega) fun a14 hq15=>(ix rfl (M2 B7r rfl rfl hq15 rfl ((to_).toNat) (by omega) (by omega)) (ip' 1 3 [(62,pa ((Addr.add a14 (((to_).toNat) * 12)).add 3))] (ix rfl (F3 (v:=iv ((cells.getD ((to_).toNat) Cel.zero).wide)) (us:=[iv ((cells.getD ((to_).toNat) Cel.zero).wide)]) ty3 rfl rfl (B8z (O2 (c:=L9) (sz:=12) hq15 (fun _=>rfl) 0 rfl (gd Cel.zero (by omega))) (ws:=[iv ((cells.getD ((to_).toNat) Cel.zero).wide)]) 3 1 rfl) rfl) (ip' 2 0 [(65,bv (decide ((cells.getD ((to_).toNat) Cel.zero).wide=2)))] ?_)))))
   exact zai 7 58 65 g13
  refine ip' 1 0 [(66,bv ((decide (to_<(cells.length:Int)))&&(decide ((cells.getD ((to_).toNat) Cel.zero).wide=2))))] ?_
  exact zai 4 53 66 g12
 refine ie ?_
 refine zjb rfl hR ?_ ?_<;>clear hR<;>intro hR h16
 ·have h16p:((((from_<0)∨(to_<from_))∨((cells.length:Int)<to_))∨((from_<(cells.length:Int))∧((cells.getD ((from_).toNat) Cel.zero).wide=2)))∨((to_<(cells.length:Int))∧((cells.getD ((to_).toNat) Cel.zero).wide=2)):=by simpa using h16
  refine sr 5 rfl (zrg 5 0 [0] [(8,.slice none 0 0),(10,iv 0),(11,iv 2)] [bx b3 (A4 Sty.zero) 67,bx b2 (A4 s) 67,bx b1 [iv to_] 3] ?_)
  subst hR
  refine ie (B5 ?_)
  exact zer hr hD (E0b rfl (C1 rfl) (F5 (us:=A4 Sty.zero) B5d rfl 0 rfl rfl rfl) (C1 rfl) (C1 rfl)) ⟨VR.nil,VOk.nil⟩ (mc [[bx b3 (A4 Sty.zero) 67],[bx b2 (A4 s) 67],[bx b1 [iv to_] 3],vo A0 26 VR.nil ([]:List Act)] [false,false,false,true] (by first|rfl|simp) (by first|rfl|(simp only [List.length_set]<;>rfl))) fn0
 have h16p:¬ (((((from_<0)∨(to_<from_))∨((cells.length:Int)<to_))∨((from_<(cells.length:Int))∧((cells.getD ((from_).toNat) Cel.zero).wide=2)))∨((to_<(cells.length:Int))∧((cells.getD ((to_).toNat) Cel.zero).wide=2))):=by simpa using h16
 refine B1 (nx (sr 7 rfl (B9a 7 0 [1,2,0] (fun b17 b18=>[(13,pt b18 0)]) (fun b17 b18=>[bx b18 [pt b17 0] 117,bx b17 [iv s.attr,iv s.under,iv s.fore.kind,iv s.fore.n,iv s.back.kind,iv s.back.n,iv s.line.kind,iv s.line.n,.slice none 0 0,iv to_] 121,bx b3 (A4 Sty.zero) 67,bx b2 (A4 s) 67,bx b1 [iv to_] 3]) (fun b17 b18=>(ie (A8 (sr 4 rfl (zrl 3 1 [4] [(73,.slice cellsq cells.length cellsk),(74,iv from_),(75,iv to_)] (it rfl (C4 (L2:=[bx b18 [pt b17 0] 117,bx b17 [iv s.attr,iv s.under,iv s.fore.kind,iv s.fore.n,iv s.back.kind,iv s.back.n,iv s.line.kind,iv s.line.n,.slice none 0 0,iv to_] 121,bx b3 (A4 Sty.zero) 67,bx b2 (A4 s) 67,bx b1 [iv to_] 3]) (C7f cells from_ to_ cellsq cellsk (by first|omega|(simp<;>omega)|(dsimp only;omega)|decide) (by first|omega|(simp<;>omega)|(dsimp only;omega)|decide) _ rfl) rfl rfl rfl rfl rfl (A2.pick [0] rfl) (List.Perm.refl _) (fun ⟨b19,b20,b21,⟨⟨q22,k23⟩,hp24⟩⟩=>[bx b19 [iv ((G6 cells from_ to_).1)] 3,bx b18 [pt b17 0] 117,bx b17 [iv s.attr,iv s.under,iv s.fore.kind,iv s.fore.n,iv s.back.kind,iv s.back.n,iv s.line.kind,iv s.line.n,.slice none 0 0,iv to_] 121,bx b3 (A4 Sty.zero) 67,bx b2 (A4 s) 67,bx b1 [iv to_] 3]) (fun _=>rfl)) fun ⟨b19,b20,b21,⟨⟨q22,k23⟩,hp24⟩⟩=>?_)))))))))
 obtain ⟨hc25,hl26⟩:=hp24
 refine ie (B4 (A3e (F8 [vo A0 26 VR.nil ([]:List Act),[bx b19 [iv ((G6 cells from_ to_).1)] 3],[bx b18 [pt b17 0] 117],[bx b17 [iv s.attr,iv s.under,iv s.fore.kind,iv s.fore.n,iv s.back.kind,iv s.back.n,iv s.line.kind,iv s.line.n,.slice none 0 0,iv to_] 121],[bx b3 (A4 Sty.zero) 67],[bx b2 (A4 s) 67],[bx b1 [iv to_] 3]] [2,3,4,5,6,0,1] 7 rfl (by decide) rfl [[bx b18 [pt b17 0] 117],[bx b17 [iv s.attr,iv s.under,iv s.fore.kind,iv s.fore.n,iv s.back.kind,iv s.back.n,iv s.line.kind,iv s.line.n,.slice none 0 0,iv to_] 121],[bx b3 (A4 Sty.zero) 67],[bx b2 (A4 s) 67],[bx b1 [iv to_] 3],vo A0 26 VR.nil ([]:List Act),[bx b19 [iv ((G6 cells from_ to_).1)] 3]] rfl (by first|rfl|simp)) ?_))
 refine D7f [(6,pt b1 0),(9,pt b3 0),(13,pt b18 0),(76,.func (.func 111) #[] #[pt b19 0,pa b20,pa b21])] ⟨rfl,rfl,rfl,rfl,trivial⟩ ?_
 refine D7y (β:=Prn) (enc:=(fun x=>ag (C3 x))) (xs:=(R7 ((G6 cells from_ to_).1) ((G6 cells from_ to_).2.1) ((G6 cells from_ to_).2.2))) (σ:=Sty×List Act×VR×Int) hr rfl (C2v ((G6 cells from_ to_).1) ((G6 cells from_ to_).2.1) ((G6 cells from_ to_).2.2) b19 b20 b21 q22 k23 (by first|omega|(simp<;>omega)|(dsimp only;omega)|decide) (by first|omega|(simp<;>omega)|(dsimp only;omega)|decide) (by have hok:=A5u (he.2 (by first|assumption|omega));exact ⟨hok.2.2,hok.2.1,by show 0≤from_;omega,by show to_≤(cells.length:Int);omega⟩) _ rfl) (A2.pick [0,2,1] rfl) rfl rfl (fun rem x=>D9 to_ rem x.1 x.2.1 x.2.2.2=R∧VOk 6 x.2.1.length x.2.2.1∧(∀ x ∈ rem,0≤x.many∧x.many≤100)∧x.2.1.length+400 * rem.length≤40000) (fun _ _=>False) (fun x=>(bx b18 [pt b17 0] 117::bx b17 [iv x.1.attr,iv x.1.under,iv x.1.fore.kind,iv x.1.fore.n,iv x.1.back.kind,iv x.1.back.n,iv x.1.line.kind,iv x.1.line.n,.slice (va x.2.2.1.q) x.2.1.length x.2.2.1.k,iv x.2.2.2] 121::bx b3 (A4 Sty.zero) 67::bx b2 (A4 s) 67::bx b1 [iv to_] 3::(vo A0 26 x.2.2.1 x.2.1)++([]))) (fun x=>[at_ b20 [iv ((G6 cells from_ to_).2.1)],at_ b21 [.slice q22 (((G6 cells from_ to_).2.2).length) k23],sl L9 q22 ((G6 cells from_ to_).2.2),sl L9 cellsq cells,A1y,A1z,M9,M1,I6,N9]) (s,([]:List Act),VR.nil,to_) (by exact ⟨hR,VOk.nil,(by exact (A8h (by have hok:=A5u (he.2 (by first|assumption|omega));exact ⟨hok.2.2,hok.2.1,by show 0≤from_;omega,by show to_≤(cells.length:Int);omega⟩)).2),(by have:=(A8h (c0:=from_) (c1:=to_) (c2:=cells) (by have hok:=A5u (he.2 (by first|assumption|omega));exact ⟨hok.2.2,hok.2.1,by omega,by omega⟩)).1;have e:R7 (G6 cells from_ to_).1 (G6 cells from_ to_).2.1 (G6 cells from_ to_).2.2=R7 from_ to_ cells:=rfl;rw [e];simp only [List.length_nil];omega)⟩) (mc [[bx b18 [pt b17 0] 117],[bx b17 [iv s.attr,iv s.under,iv s.fore.kind,iv s.fore.n,iv s.back.kind,iv s.back.n,iv s.line.kind,iv s.line.n,.slice none 0 0,iv to_] 121],[bx b3 (A4 Sty.zero) 67],[bx b2 (A4 s) 67],[bx b1 [iv to_] 3],vo A0 26 VR.nil ([]:List Act),[bx b19 [iv ((G6 cells from_ to_).1)] 3]] [true,true,true,true,true,true,true] (by first|rfl|simp) (by first|rfl|(simp only [List.length_set]<;>rfl))) A2.refl ?_ ?_ (fun _ _ _ _ h=>h.elim)
 ·rintro el rest ⟨bheldStyle,bl,blr,bat⟩ hI Y Y' K' hY' hK
  try dsimp only at hI
  obtain ⟨hR,hokblr,hel,hbl⟩:=hI
  replace hR:=(D9.eq_2 ..).symm.trans hR
  have:=VOk.le hokblr
  refine A5 2 rfl (M8 2 0 [0] (fun b27=>[(14,pt b27 0)]) (fun b27=>(bx b27 (C3 el) 126::bx b18 [pt b17 0] 117::pbx b17 bheldStyle blr bl.length bat::bx b3 (A4 Sty.zero) 67::bx b2 (A4 s) 67::bx b1 [iv to_] 3::(vo A0 26 blr bl)++([]))) (fun b27=>(A7 (hK _ _ _ ?_))))
  refine B4 (A5 7 rfl (zrl 6 1 [1,0,0,5] [(78,pt b17 0),(79,ag (C3 el)),(83,bv (decide (el.til=to_)))] ?_))
  have hQ:=D0 hR;clear hR;obtain ⟨y5,hy5,hR⟩:=hQ
  refine it rfl (G8 (L2:=[bx b27 (C3 el) 126,bx b18 [pt b17 0] 117,bx b3 (A4 Sty.zero) 67,bx b2 (A4 s) 67,bx b1 [iv to_] 3]) (B3u bheldStyle bl bat el (decide (el.til=to_)) b17 blr hokblr (by first|assumption|exact hel _ (List.mem_cons_self ..)|omega) (by first|omega|(simp<;>omega)) y5 hy5) rfl rfl rfl rfl rfl (A2.pick [4,5,6,7,8,9] rfl) (F8 [[bx b27 (C3 el) 126],[bx b18 [pt b17 0] 117],[pbx b17 bheldStyle blr bl.length bat],[bx b3 (A4 Sty.zero) 67],[bx b2 (A4 s) 67],[bx b1 [iv to_] 3],vo A0 26 blr bl] [2,6,0,1,3,4,5] 7 rfl (by decide) rfl [[pbx b17 bheldStyle blr bl.length bat],vo A0 26 blr bl,[bx b27 (C3 el) 126],[bx b18 [pt b17 0] 117],[bx b3 (A4 Sty.zero) 67],[bx b2 (A4 s) 67],[bx b1 [iv to_] 3]] rfl (by first|rfl|simp)) (fun ⟨r28,hk29⟩=>(pbx b17 y5.2.1 r28 y5.1.length y5.2.2::bx b27 (C3 el) 126::bx b18 [pt b17 0] 117::bx b3 (A4 Sty.zero) 67::bx b2 (A4 s) 67::bx b1 [iv to_] 3::(vo A0 26 r28 y5.1)++([]))) (fun ⟨r28,hk29⟩=>F8 [[pbx b17 y5.2.1 r28 y5.1.length y5.2.2],vo A0 26 r28 y5.1,[bx b27 (C3 el) 126],[bx b18 [pt b17 0] 117],[bx b3 (A4 Sty.zero) 67],[bx b2 (A4 s) 67],[bx b1 [iv to_] 3]] [0,2,3,4,5,6,1] 7 rfl (by decide) (by first|rfl|simp) [[pbx b17 y5.2.1 r28 y5.1.length y5.2.2],[bx b27 (C3 el) 126],[bx b18 [pt b17 0] 117],[bx b3 (A4 Sty.zero) 67],[bx b2 (A4 s) 67],[bx b1 [iv to_] 3],vo A0 26 r28 y5.1] rfl (by first|rfl|simp))) fun ⟨r28,hk29⟩=>?_
  have:=VOk.le hk29
  have:=VOk.cap hk29
  have:=A6c bheldStyle bl bat el (decide (el.til=to_)) (hel _ (List.mem_cons_self ..));try rw [hy5] at this
  refine A7 (A3e (F8 [[pbx b17 y5.2.1 r28 y5.1.length y5.2.2],[bx b27 (C3 el) 126],[bx b18 [pt b17 0] 117],[bx b3 (A4 Sty.zero) 67],[bx b2 (A4 s) 67],[bx b1 [iv to_] 3],vo A0 26 r28 y5.1] [2,0,3,4,5,6,1] 7 rfl (by decide) rfl [[bx b18 [pt b17 0] 117],[pbx b17 y5.2.1 r28 y5.1.length y5.2.2],[bx b3 (A4 Sty.zero) 67],[bx b2 (A4 s) 67],[bx b1 [iv to_] 3],vo A0 26 r28 y5.1,[bx b27 (C3 el) 126]] rfl (by first|rfl|simp)) ?_)
  exact C0q (I:=fun rem x=>D9 to_ rem x.1 x.2.1 x.2.2.2=R∧VOk 6 x.2.1.length x.2.2.1∧(∀ x ∈ rem,0≤x.many∧x.many≤100)∧x.2.1.length+400 * rem.length≤40000) (Jx:=fun _ _=>False) (Lk:=fun x=>(bx b18 [pt b17 0] 117::bx b17 [iv x.1.attr,iv x.1.under,iv x.1.fore.kind,iv x.1.fore.n,iv x.1.back.kind,iv x.1.back.n,iv x.1.line.kind,iv x.1.line.n,.slice (va x.2.2.1.q) x.2.1.length x.2.2.1.k,iv x.2.2.2] 121::bx b3 (A4 Sty.zero) 67::bx b2 (A4 s) 67::bx b1 [iv to_] 3::(vo A0 26 x.2.2.1 x.2.1)++([]))) (Φk:=fun x=>[at_ b20 [iv ((G6 cells from_ to_).2.1)],at_ b21 [.slice q22 (((G6 cells from_ to_).2.2).length) k23],sl L9 q22 ((G6 cells from_ to_).2.2),sl L9 cellsq cells,A1y,A1z,M9,M1,I6,N9]) (rest:=rest) (y5.2.1,y5.1,r28,y5.2.2) (by exact ⟨hR,hk29,(by exact fun x hx=>hel x (List.mem_cons_of_mem _ hx)),(by dsimp only;simp only [List.length_cons] at hbl;omega)⟩) (mc [[bx b18 [pt b17 0] 117],[pbx b17 y5.2.1 r28 y5.1.length y5.2.2],[bx b3 (A4 Sty.zero) 67],[bx b2 (A4 s) 67],[bx b1 [iv to_] 3],vo A0 26 r28 y5.1,[bx b27 (C3 el) 126]] [true,true,true,true,true,true,false] (by first|rfl|simp) (by first|rfl|(simp only [List.length_set]<;>rfl))) A2.refl
 ·rintro d30 ⟨bheldStyle,bl,blr,bat⟩ hd30 hI
  try dsimp only at hI
  obtain ⟨hR,hokblr,hel,hbl⟩:=hI
  replace hR:=(D9.eq_1 ..).symm.trans hR
  have:=VOk.le hokblr
  refine nx ?_
  refine sh 17 [(17,[bx b18 [pt b17 0] 117]),(17,[pbx b17 bheldStyle blr bl.length bat]),(14,[bx b3 (A4 Sty.zero) 67]),(17,[bx b2 (A4 s) 67]),(17,[bx b1 [iv to_] 3]),(17,vo A0 26 blr bl)] [at_ b20 [iv ((G6 cells from_ to_).2.1)],at_ b21 [.slice q22 (((G6 cells from_ to_).2.2).length) k23],sl L9 q22 ((G6 cells from_ to_).2.2),sl L9 cellsq cells,A1y,A1z,M9,M1,I6,N9] (bx b18 [pt b17 0] 117::pbx b17 bheldStyle blr bl.length bat::bx b3 (A4 Sty.zero) 67::bx b2 (A4 s) 67::bx b1 [iv to_] 3::(vo A0 26 blr bl)++([])) (zml 17 0) (by kernel_rfl) rfl (by kernel_rfl) (by kernel_rfl) (by kernel_rfl) (mc [[bx b18 [pt b17 0] 117],[pbx b17 bheldStyle blr bl.length bat],[bx b3 (A4 Sty.zero) 67],[bx b2 (A4 s) 67],[bx b1 [iv to_] 3],vo A0 26 blr bl] [true,true,true,true,true,true] (by first|rfl|simp) (by first|rfl|(simp only [List.length_set]<;>rfl))) A2.refl ?_
  refine zhl 0 (bx b18 [pt b17 0] 117::pbx b17 bheldStyle blr bl.length bat::bx b3 (A4 Sty.zero) 67::bx b2 (A4 s) 67::bx b1 [iv to_] 3::(vo A0 26 blr bl)++([])) (zml 17 1) rfl (B2 (v:=pt b17 0) D8c rfl rfl 0 rfl rfl) ?_
  refine zhp [1,2] 14 (zml 17 7) [(87,pt b17 8)] ?_
  refine zhl 3 (bx b18 [pt b17 0] 117::pbx b17 bheldStyle blr bl.length bat::bx b3 (A4 Sty.zero) 67::bx b2 (A4 s) 67::bx b1 [iv to_] 3::(vo A0 26 blr bl)++([])) (zml 17 15) rfl (B2 (v:=.slice (va blr.q) bl.length blr.k) D0q rfl rfl 1 rfl rfl) ?_
  refine zhp [13] 12 (zml 17 8207) [(8,.slice (va blr.q) bl.length blr.k)] ?_
  refine zhl 4 (bx b18 [pt b17 0] 117::pbx b17 bheldStyle blr bl.length bat::bx b3 (A4 Sty.zero) 67::bx b2 (A4 s) 67::bx b1 [iv to_] 3::(vo A0 26 blr bl)++([])) (zml 17 8223) rfl (B2 (v:=pt b17 0) D8c rfl rfl 0 rfl rfl) ?_
  refine zhp [5,6,7] 8 (zml 17 8447) [(92,pt b17 0)] ?_
  refine zhl 8 (bx b18 [pt b17 0] 117::pbx b17 bheldStyle blr bl.length bat::bx b3 (A4 Sty.zero) 67::bx b2 (A4 s) 67::bx b1 [iv to_] 3::(vo A0 26 blr bl)++([])) (zml 17 8703) rfl (F6 (us:=[iv bheldStyle.attr,iv bheldStyle.under,iv bheldStyle.fore.kind,iv bheldStyle.fore.n,iv bheldStyle.back.kind,iv bheldStyle.back.n,iv bheldStyle.line.kind,iv bheldStyle.line.n]) B5d rfl rfl 1 rfl rfl rfl) ?_
  refine zhl 9 (bx b18 [pt b17 0] 117::pbx b17 bheldStyle blr bl.length bat::bx b2 (A4 s) 67::bx b1 [iv to_] 3::(vo A0 26 blr bl)++([])) (zml 17 9215) rfl (B2 (v:=pt b17 0) D8c rfl rfl 0 rfl rfl) ?_
  refine zhp [10,11] 4 (zml 17 12287) [(96,pt b17 9)] ?_
  refine zhl 12 (bx b18 [pt b17 0] 117::pbx b17 bheldStyle blr bl.length bat::bx b2 (A4 s) 67::bx b1 [iv to_] 3::(vo A0 26 blr bl)++([])) (zml 17 16383) rfl (B2 (v:=iv bat) ty3 rfl rfl 1 rfl rfl) ?_
  refine zho 14 (bx b18 [pt b17 0] 117::pbx b17 bheldStyle blr bl.length bat::bx b2 (A4 s) 67::bx b1 [iv to_] 3::(vo A0 26 blr bl)++([])) (zml 17 32767) rfl (N4 (us:=[iv bheldStyle.attr,iv bheldStyle.under,iv bheldStyle.fore.kind,iv bheldStyle.fore.n,iv bheldStyle.back.kind,iv bheldStyle.back.n,iv bheldStyle.line.kind,iv bheldStyle.line.n]) (cs':=A4 bheldStyle) B5d rfl rfl rfl 2 rfl rfl rfl rfl rfl rfl) (fun _=>(mc [[bx b18 [pt b17 0] 117],[pbx b17 bheldStyle blr bl.length bat],[bx b3 (A4 bheldStyle) 67],[bx b2 (A4 s) 67],[bx b1 [iv to_] 3],vo A0 26 blr bl] [true,true,false,true,true,true] (by first|rfl|simp) (by first|rfl|(simp only [List.length_set]<;>rfl)))) (fun _=>A2.refl) fun _=>?_
  refine zhp [15,16] 0 (zml 17 131071) [(10,iv bat),(11,iv 0)] ?_
  refine A4z (by kernel_rfl) ?_
  subst hR
  refine B5 ?_
  exact B9m rfl ⟨hr,hD⟩ (by exact (A3c.cons (show A3c X.D by rw [hD];exact A3c.nil) hd30)) (E0b rfl (C1 rfl) (F5 (us:=A4 bheldStyle) B5d rfl 2 rfl rfl rfl) (C1 rfl) (C1 rfl)) ⟨blr,hokblr⟩ (by rfl) (mc [[bx b18 [pt b17 0] 117],[pbx b17 bheldStyle blr bl.length bat],[bx b3 (A4 bheldStyle) 67],[bx b2 (A4 s) 67],[bx b1 [iv to_] 3],vo A0 26 blr bl] [false,false,false,false,false,true] (by first|rfl|simp) (by first|rfl|(simp only [List.length_set]<;>rfl))) fn0
end Go.Proofs.YtanighkpfmgnbaaGreatDoor
