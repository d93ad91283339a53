import Derived.Test.YthcjfkljekdioaaGreatDoorProg
import Derived.Test.YthcjfkljekdioaaGreatDoorMA2
import Derived.Test.YthcjfkljekdioaaGreatDoorMB1
import Derived.Test.YthcjfkljekdioaaGreatDoorMB2
import Derived.Test.YthcjfkljekdioaaGreatDoorMB3
import Derived.Test.YthcjfkljekdioaaGreatDoorMB4
import Derived.Test.YthcjfkljekdioaaGreatDoorMB5
set_option linter.unusedVariables false
set_option linter.unusedSimpArgs false
set_option linter.unnecessarySimpa false
set_option maxRecDepth 100000
namespace Go.Proofs.YthcjfkljekdioaaGreatDoor
open Go Go.Fen
theorem D5v:EqT Tryz.prog 38 A5l:=EqT.of 20 rfl (by kernel_rfl) (by kernel_rfl) (fun _ _=>by kernel_rfl) A5l.inj
theorem D5k:EqT Tryz.prog 45 A5p:=EqT.of 20 rfl (by kernel_rfl) (by kernel_rfl) (fun _ _=>by kernel_rfl) A5p.inj
theorem D6d:EqT Tryz.prog 47 A1n:=EqT.of 20 rfl (by kernel_rfl) (by kernel_rfl) (fun _ _=>by kernel_rfl) A1n.inj
def A4p (cols:Int):Nat→List Bool→Nat→(List Bool×Int)
 | 0,_,_=>([],0)
 | fu1+1,out,i=>(bif (decide ((i:Int)<cols)) then A4p cols fu1 (out++([((decide ((0:Int)<(i:Int)))&&(decide (((i:Int) % 8)=0)))]:List Bool)) (i+1) else (out,0))
def A6r (cols:Int):List Bool×Int :=
 (bif ((decide (cols<2))||(decide ((80:Int)<cols))) then (([]:List Bool),2) else A4p cols ((cols - (0:Int)).toNat+1) ([]:List Bool) 0)
theorem C3c (cols:Int) (R:List Bool×Int) (hR:A6r cols=R):Con Tryz.prog 97 [iv cols] [] [] ({r:VR // VOk 1 R.1.length r}) (fun x=>.tuple #[.slice (va x.1.q) R.1.length x.1.k,iv R.2]) (fun x=>((vo D3 4 x.1 R.1)++([]))) (fun x=>[]):=by
 refine zco Tryz.func97 [(0,iv cols)] fun X hX hr hD=>?_
 replace hR:=(A6r.eq_1 ..).symm.trans hR
 refine sr 2 rfl (ip' 2 0 [] ?_)
 refine ie (A1 (sr 6 rfl (ip' 3 3 [(8,bv (decide (cols<2)))] ?_)))
 refine zir 3 0 8 11 (decide ((80:Int)<cols)) (fun g1 g1p=>?_) ?_
 ·refine ip' 3 0 [(11,bv (decide ((80:Int)<cols)))] ?_
  exact A2 (I5 2 8 11 g1 fn0 (mk [] rfl) rfl rfl rfl rfl rfl)
 refine ie ?_
 refine zjo rfl hR ?_ ?_<;>clear hR<;>intro hR h2 h2p
 ·refine sr 2 rfl (ip' 2 0 [(2,.slice none 0 0),(3,iv 2)] ?_)
  subst hR
  refine ie (A7 ?_)
  exact zer hr hD (U5 rfl (B2 rfl) (B2 rfl)) ⟨VR.nil,VOk.nil⟩ (mc [vo D3 4 VR.nil ([]:List Bool)] [true] rfl (by first|rfl|(simp only [List.length_set]<;>rfl))) fn0
 refine A5 (nx (sr 1 rfl (ip' 1 0 [(4,.slice none 0 0)] ?_)))
 refine ie (A1 (sr 1 rfl (ip' 1 0 [(5,iv 0)] ?_)))
 refine ie (B0 ?_)
 refine B0q (fun (fu:Nat) (out:List Bool) (outr:VR) (i:Nat)=>((cols - (i:Int)).toNat<fu∧A4p cols fu out i=R∧VOk 1 out.length outr∧out.length=i,[(0,iv cols),(4,.slice (va outr.q) out.length outr.k),(5,iv (i:Int))],((vo D3 4 outr out)++([])),[],fu)) ((cols - (0:Int)).toNat+1) ([]:List Bool) VR.nil 0 ⟨(Nat.lt_succ_self _),hR,VOk.nil,(by rfl)⟩ (mc [vo D3 4 VR.nil ([]:List Bool)] [true] rfl (by first|rfl|(simp only [List.length_set]<;>rfl))) fn0 ?_
 rintro fu out outr i ⟨hm3,hR,hokoutr,hol⟩
 have:=VOk.le hokoutr
 obtain ⟨fu1,rfl⟩:∃ m,fu=m+1:=⟨fu - 1,by omega⟩
 replace hR:=(A4p.eq_2 ..).symm.trans hR
 refine A1 (sr 3 rfl (ip' 3 0 [(14,bv (decide ((i:Int)<cols)))] ?_))
 refine ie ?_
 refine zjd rfl hR ?_ ?_<;>clear hR<;>intro hR h4 h4p
 ·refine A5 (nx (A1 (B0 (A3 11 rfl (ip' 4 7 [(17,.slice (va outr.q) out.length outr.k),(20,bv (decide ((0:Int)<(i:Int))))] ?_)))))
  refine zid 4 3 20 24 (decide (((i:Int) % 8)=0)) (fun g5 g5p=>?_) ?_
  ·refine ip' 1 3 [(21,iv (i:Int))] ?_
   refine ix rfl (C9g (c:=((i:Int) % 8)) rfl rfl rfl (by decide) (by exact ⟨by omega,rfl⟩)) ?_
   refine ip' 2 0 [(24,bv (decide (((i:Int) % 8)=0)))] ?_
   exact A2 (I5 4 20 24 g5 fn0 (mc [vo D3 4 outr out] [true] rfl (by first|rfl|(simp only [List.length_set]<;>rfl))) rfl rfl rfl rfl rfl)
  refine it rfl (E3 (c:=D3) (xs:=([((decide ((0:Int)<(i:Int)))&&(decide (((i:Int) % 8)=0)))]:List Bool)) C5z rfl rfl rfl (by kernel_rfl)) fun b6=>?_
  have:([((decide ((0:Int)<(i:Int)))&&(decide (((i:Int) % 8)=0)))]:List Bool).length=1:=rfl
  refine it rfl (A4v (f:=D3) (r:=outr) (xs:=out) (ys:=([((decide ((0:Int)<(i:Int)))&&(decide (((i:Int) % 8)=0)))]:List Bool)) (pre:=[]) (post:=[]) D2g (fun _=>rfl) (fun _=>rfl) rfl rfl rfl rfl rfl rfl rfl rfl rfl (B5 0 rfl) hokoutr (by first|omega|(simp only [List.length_cons,List.length_nil,List.length_append,List.length_take,List.length_drop];omega)) (by first|omega|(simp only [List.length_cons,List.length_nil,List.length_append,List.length_take,List.length_drop];omega))) fun ⟨r7,hr8⟩=>?_
  have:=VOk.le hr8
  have:=VOk.cap hr8
  refine ip' 1 0 [(4,.slice (va r7.q) ((out++([((decide ((0:Int)<(i:Int)))&&(decide (((i:Int) % 8)=0)))]:List Bool)).length) r7.k)] ?_
  refine A2 (nx (A3 3 rfl (ip' 1 2 [(15,iv (i:Int))] ?_)))
  refine ix rfl (B3 rfl rfl rfl rfl (by omega)) ?_
  refine ip' 1 0 [(5,iv ((i:Int)+1))] ?_
  refine A2 ?_
  exact A9x (z1:=(fu1+1)) (z2:=out) (z3:=outr) (z4:=i) fu1 (out++([((decide ((0:Int)<(i:Int)))&&(decide (((i:Int) % 8)=0)))]:List Bool)) r7 (i+1) ⟨(by omega),hR,hr8,(by (simp only [List.length_append,List.length_cons,List.length_nil];omega))⟩ (Nat.lt_succ_self _) (mc [vo D3 4 r7 (out++([((decide ((0:Int)<(i:Int)))&&(decide (((i:Int) % 8)=0)))]:List Bool))] [true] rfl (by first|rfl|(simp only [List.length_set]<;>rfl))) fn0
 refine F7 (nx (sr 3 rfl (ip' 3 0 [(2,.slice (va outr.q) out.length outr.k),(3,iv 0)] ?_)))
 subst hR
 refine ie (A7 ?_)
 exact zer hr hD (U5 rfl (B2 rfl) (B2 rfl)) ⟨outr,hokoutr⟩ (mc [vo D3 4 outr out] [true] rfl (by first|rfl|(simp only [List.length_set]<;>rfl))) fn0
def W0 (s:Sty):Cel :=
 {Cel.zero with base:=32,sty:=s}
theorem B7r (s:Sty) (R:Cel) (hR:W0 s=R):J8 Tryz.prog 249 [ag (G4 s)] [] (ag (B4 R)):=by
 refine zco Tryz.func249 [(0,ag (G4 s))] fun X hX hr hD=>?_
 replace hR:=(W0.eq_1 ..).symm.trans hR
 refine sr 2 rfl (A9f 2 0 [] (fun b1 b2=>[(1,pt b1 0),(2,pt b2 0)]) (fun b1 b2=>[bx b2 (B4 Cel.zero) 72,bx b1 (G4 s) 42]) (fun b1 b2=>?_))
 refine ie (sr 3 rfl (zrg 3 0 [1,0] [] [bx b2 (B4 ({Cel.zero with base:=32,sty:=s})) 72,bx b1 (G4 s) 42] ?_))
 subst hR
 refine ie (A7 ?_)
 exact zer hr hD (P8 rfl (J0 (us:=B4 ({Cel.zero with base:=32,sty:=s})) B6w rfl 0 rfl rfl rfl)) () (mk [false,false] rfl) fn0
def V6 (n:Int) (s:Sty):Nat→List Cel→Nat→List Cel
 | 0,_,_=>[]
 | fu1+1,out,i=>(bif (decide ((i:Int)<n)) then V6 n s fu1 (out++([(W0 s)]:List Cel)) (i+1) else out)
def A2h (n:Int) (s:Sty):List Cel :=
 V6 n s ((n - (0:Int)).toNat+1) ([]:List Cel) 0
theorem B5m (n:Int) (s:Sty) (hn:n≤80) (R:List Cel) (hR:A2h n s=R):Con Tryz.prog 165 [iv n,ag (G4 s)] [] [] ({r:VR // VOk 12 R.length r}) (fun x=>.slice (va x.1.q) R.length x.1.k) (fun x=>((vo B4 72 x.1 R)++([]))) (fun x=>[]):=by
 refine zco Tryz.func165 [(0,iv n),(1,ag (G4 s))] fun X hX hr hD=>?_
 replace hR:=(A2h.eq_1 ..).symm.trans hR
 refine sr 2 rfl (K0 2 0 [] (fun b1=>[(3,pt b1 0)]) (fun b1=>[bx b1 (G4 s) 42]) (fun b1=>?_))
 refine ie (sr 1 rfl (ip' 1 0 [(5,.slice none 0 0)] ?_))
 refine ie (A1 (sr 1 rfl (ip' 1 0 [(6,iv 0)] ?_)))
 refine ie (B0 (Z3 (H5 [vo B4 72 VR.nil ([]:List Cel),[bx b1 (G4 s) 42]] [1,0] 2 rfl (by decide) rfl [[bx b1 (G4 s) 42],vo B4 72 VR.nil ([]:List Cel)] rfl (by first|rfl|simp)) ?_))
 refine B0q (fun (fu:Nat) (out:List Cel) (outr:VR) (i:Nat)=>((n - (i:Int)).toNat<fu∧V6 n s fu out i=R∧VOk 12 out.length outr∧out.length=i,[(0,iv n),(3,pt b1 0),(5,.slice (va outr.q) out.length outr.k),(6,iv (i:Int))],(bx b1 (G4 s) 42::(vo B4 72 outr out)++([])),[],fu)) ((n - (0:Int)).toNat+1) ([]:List Cel) VR.nil 0 ⟨(Nat.lt_succ_self _),hR,VOk.nil,(by rfl)⟩ (mc [[bx b1 (G4 s) 42],vo B4 72 VR.nil ([]:List Cel)] [true,true] rfl (by first|rfl|(simp only [List.length_set]<;>rfl))) fn0 ?_
 rintro fu out outr i ⟨hm2,hR,hokoutr,hol⟩
 have:=VOk.le hokoutr
 obtain ⟨fu1,rfl⟩:∃ m,fu=m+1:=⟨fu - 1,by omega⟩
 replace hR:=(V6.eq_2 ..).symm.trans hR
 refine A1 (sr 3 rfl (ip' 3 0 [(9,bv (decide ((i:Int)<n)))] ?_))
 refine ie ?_
 refine zjd rfl hR ?_ ?_<;>clear hR<;>intro hR h3 h3p
 ·refine A5 (nx (A1 (B0 (A3 6 rfl (zrl 2 4 [0] [(12,.slice (va outr.q) out.length outr.k),(13,ag (G4 s))] ?_)))))
  refine zca (B7r s _ rfl) fn0 ?_
  refine it rfl (E3 (c:=B4) (xs:=([(W0 s)]:List Cel)) S1 rfl rfl rfl (by kernel_rfl)) fun b4=>?_
  have:([(W0 s)]:List Cel).length=1:=rfl
  refine it rfl (A4v (f:=B4) (r:=outr) (xs:=out) (ys:=([(W0 s)]:List Cel)) (pre:=[bx b1 (G4 s) 42]) (post:=[]) C3p (fun _=>rfl) (fun _=>rfl) rfl rfl rfl rfl rfl rfl rfl rfl rfl (B5 0 rfl) hokoutr (by first|omega|(simp only [List.length_cons,List.length_nil,List.length_append,List.length_take,List.length_drop];omega)) (by first|omega|(simp only [List.length_cons,List.length_nil,List.length_append,List.length_take,List.length_drop];omega))) fun ⟨r5,hr6⟩=>?_
  have:=VOk.le hr6
  have:=VOk.cap hr6
  refine ip' 1 0 [(5,.slice (va r5.q) ((out++([(W0 s)]:List Cel)).length) r5.k)] ?_
  refine A2 (nx (A3 3 rfl (ip' 1 2 [(10,iv (i:Int))] ?_)))
  refine ix rfl (B3 rfl rfl rfl rfl (by omega)) ?_
  refine ip' 1 0 [(6,iv ((i:Int)+1))] ?_
  refine A2 ?_
  exact A9x (z1:=(fu1+1)) (z2:=out) (z3:=outr) (z4:=i) fu1 (out++([(W0 s)]:List Cel)) r5 (i+1) ⟨(by omega),hR,hr6,(by (simp only [List.length_append,List.length_cons,List.length_nil];omega))⟩ (Nat.lt_succ_self _) (mc [[bx b1 (G4 s) 42],vo B4 72 r5 (out++([(W0 s)]:List Cel))] [true,true] rfl (by first|rfl|(simp only [List.length_set]<;>rfl))) fn0
 refine F7 (nx (sr 2 rfl (ip' 2 0 [(4,.slice (va outr.q) out.length outr.k)] ?_)))
 subst hR
 refine ie (A7 ?_)
 exact zer hr hD (P8 rfl (B2 rfl)) ⟨outr,hokoutr⟩ (mc [[bx b1 (G4 s) 42],vo B4 72 outr out] [false,true] rfl (by first|rfl|(simp only [List.length_set]<;>rfl))) fn0
def Y6 (cols:Int) (rows:Int) (s:Sty):Nat→List (Rwc Cel)→Nat→List (Rwc Cel)
 | 0,_,_=>[]
 | fu1+1,out,i=>(bif (decide ((i:Int)<rows)) then (D5 (A2h cols s) fun (y5:List Cel)=>Y6 cols rows s fu1 (out++([⟨y5,false⟩]:List (Rwc Cel))) (i+1)) else out)
def A0q (cols:Int) (rows:Int) (s:Sty):List (Rwc Cel) :=
 Y6 cols rows s ((rows - (0:Int)).toNat+1) ([]:List (Rwc Cel)) 0
theorem A6m (cols:Int) (rows:Int) (s:Sty) (hcr:cols≤80∧rows≤40) (R:List (Rwc Cel)) (hR:A0q cols rows s=R):Con Tryz.prog 98 [iv cols,iv rows,ag (G4 s)] [] [] ({t:VR×List Rwq // VOk 2 R.length t.1∧C8 t.2 R}) (fun x=>.slice (va x.1.1.q) R.length x.1.1.k) (fun x=>((vo B7 78 x.1.1 x.1.2)++([]))) (fun x=>[C3 B4 x.1.2 R]):=by
 refine zco Tryz.func98 [(0,iv cols),(1,iv rows),(2,ag (G4 s))] fun X hX hr hD=>?_
 replace hR:=(A0q.eq_1 ..).symm.trans hR
 refine sr 2 rfl (K0 2 0 [] (fun b1=>[(5,pt b1 0)]) (fun b1=>[bx b1 (G4 s) 42]) (fun b1=>?_))
 refine ie (sr 1 rfl (ip' 1 0 [(7,.slice none 0 0)] ?_))
 refine ie (A1 (sr 1 rfl (ip' 1 0 [(8,iv 0)] ?_)))
 refine ie (B0 (Z3 (H5 [vo B7 78 VR.nil ([]:List Rwq),[bx b1 (G4 s) 42]] [1,0] 2 rfl (by decide) rfl [[bx b1 (G4 s) 42],vo B7 78 VR.nil ([]:List Rwq)] rfl (by first|rfl|simp)) ?_))
 refine D6c (fun (fu:Nat) (out:List (Rwc Cel)) (outr:VR) (outrs:List Rwq) (i:Nat)=>((rows - (i:Int)).toNat<fu∧Y6 cols rows s fu out i=R∧VOk 2 out.length outr∧C8 outrs out∧out.length=i,[(0,iv cols),(1,iv rows),(5,pt b1 0),(7,.slice (va outr.q) out.length outr.k),(8,iv (i:Int))],(bx b1 (G4 s) 42::(vo B7 78 outr outrs)++([])),[C3 B4 outrs out],fu)) ((rows - (0:Int)).toNat+1) ([]:List (Rwc Cel)) VR.nil ([]:List Rwq) 0 ⟨(Nat.lt_succ_self _),hR,VOk.nil,C8.none,(by rfl)⟩ (mc [[bx b1 (G4 s) 42],vo B7 78 VR.nil ([]:List Rwq)] [true,true] rfl (by first|rfl|(simp only [List.length_set]<;>rfl))) (A4.con1 Y3 fn0) ?_
 rintro fu out outr outrs i ⟨hm2,hR,hokoutr,hrowsoutrs,hol⟩
 have:=VOk.le hokoutr
 have:=hrowsoutrs.1
 obtain ⟨fu1,rfl⟩:∃ m,fu=m+1:=⟨fu - 1,by omega⟩
 replace hR:=(Y6.eq_2 ..).symm.trans hR
 refine A1 (sr 3 rfl (ip' 3 0 [(11,bv (decide ((i:Int)<rows)))] ?_))
 refine ie ?_
 refine zjd rfl hR ?_ ?_<;>clear hR<;>intro hR h3 h3p
 ·refine A5 (nx (A1 (B0 (A3 8 rfl (zrl 3 5 [0] [(14,.slice (va outr.q) out.length outr.k),(15,iv cols),(16,ag (G4 s))] ?_)))))
  have hQ:=F5 hR;clear hR;obtain ⟨y5,hy5,hR⟩:=hQ
  refine it rfl (H2 (L2:=(bx b1 (G4 s) 42::(vo B7 78 outr outrs)++([]))) (B5m cols s (by omega) y5 hy5) rfl rfl rfl rfl rfl fn0 (List.Perm.refl _) (fun ⟨r4,hk5⟩=>(bx b1 (G4 s) 42::(vo B4 72 r4 y5)++((vo B7 78 outr outrs)++([])))) (fun ⟨r4,hk5⟩=>H5 [vo B4 72 r4 y5,[bx b1 (G4 s) 42],vo B7 78 outr outrs] [1,0,2] 3 rfl (by decide) (by first|rfl|simp only [List.flatten_cons,List.flatten_nil,List.append_nil,List.cons_append,List.nil_append,List.append_assoc]) [[bx b1 (G4 s) 42],vo B4 72 r4 y5,vo B7 78 outr outrs] rfl (by first|rfl|simp only [List.flatten_cons,List.flatten_nil,List.append_nil,List.cons_append,List.nil_append,List.append_assoc]))) fun ⟨r4,hk5⟩=>?_
  have:=VOk.le hk5
  have:=VOk.cap hk5
  refine zrl 1 3 [] [(18,ag [.slice (va r4.q) y5.length r4.k,bv false])] ?_
  refine O7 [bx b1 (G4 s) 42] ((vo B7 78 outr outrs)++([])) (T:=72) (c:=B4) (r:=r4) (xs:=y5) hk5 (by first|rfl|simp only [List.cons_append,List.append_assoc,List.nil_append,List.append_nil]) ?_
  have:=VOk.cap hk5
  refine it rfl (E3 (c:=B7) (xs:=([⟨⟨va r4.q,y5.length,r4.k⟩,false⟩]:List Rwq)) B0h rfl rfl rfl (by kernel_rfl)) fun b6=>?_
  have hrows7:C8 ([⟨⟨va r4.q,y5.length,r4.k⟩,false⟩]:List Rwq) ([⟨y5,false⟩]:List (Rwc Cel)):=(C8.cons ⟨rfl,(by first|omega|(simp only [List.length_take,List.length_drop,List.length_append,List.length_cons,List.length_nil,List.length_set,List.length_map];omega)|decide),(by first|omega|(simp only [List.length_take,List.length_drop,List.length_append,List.length_cons,List.length_nil,List.length_set,List.length_map];omega)|decide)⟩ rfl C8.none)
  refine H8 (q:=C3 B4 ([⟨⟨va r4.q,y5.length,r4.k⟩,false⟩]:List Rwq) ([⟨y5,false⟩]:List (Rwc Cel))) (C4z (B5 1 rfl) Y3) ?_
  have:([⟨⟨va r4.q,y5.length,r4.k⟩,false⟩]:List Rwq).length=1:=rfl
  have hw10:C8 (outrs++([⟨⟨va r4.q,y5.length,r4.k⟩,false⟩]:List Rwq)) (out++([⟨y5,false⟩]:List (Rwc Cel))):=C8.append hrowsoutrs hrows7
  refine it rfl (B3a (r:=outr) (rs:=outrs) (xss:=out) (pre:=[bx b1 (G4 s) 42]) (post:=[]) C5i rfl rfl rfl rfl rfl rfl rfl rfl rfl (B5 1 rfl) (B5 3 rfl) (B5 0 rfl) hrowsoutrs hrows7 hokoutr (by first|omega|(simp only [List.length_cons,List.length_nil,List.length_append,List.length_take,List.length_drop];omega)) (by first|omega|(simp only [List.length_cons,List.length_nil,List.length_append,List.length_take,List.length_drop];omega))) fun ⟨r8,hr9⟩=>?_
  have:=VOk.le hr9
  have:=VOk.cap hr9
  have:([⟨y5,false⟩]:List (Rwc Cel)).length=1:=rfl
  have:(out++([⟨y5,false⟩]:List (Rwc Cel))).length=out.length+1:=List.length_append
  refine ip' 1 0 [(7,.slice (va r8.q) ((out++([⟨y5,false⟩]:List (Rwc Cel))).length) r8.k)] ?_
  refine A2 (nx (A3 3 rfl (ip' 1 2 [(12,iv (i:Int))] ?_)))
  refine ix rfl (B3 rfl rfl rfl rfl (by omega)) ?_
  refine ip' 1 0 [(8,iv ((i:Int)+1))] ?_
  refine A2 ?_
  exact D5a (z1:=(fu1+1)) (z2:=out) (z3:=outr) (z4:=outrs) (z5:=i) fu1 (out++([⟨y5,false⟩]:List (Rwc Cel))) r8 (outrs++([⟨⟨va r4.q,y5.length,r4.k⟩,false⟩]:List Rwq)) (i+1) ⟨(by omega),hR,hr9,hw10,(by (simp only [List.length_append,List.length_cons,List.length_nil];omega))⟩ (Nat.lt_succ_self _) (mc [[bx b1 (G4 s) 42],vo B7 78 r8 (outrs++([⟨⟨va r4.q,y5.length,r4.k⟩,false⟩]:List Rwq))] [true,true] rfl (by first|rfl|(simp only [List.length_set]<;>rfl))) (A4.pick [0] rfl)
 refine F7 (nx (sr 2 rfl (ip' 2 0 [(6,.slice (va outr.q) out.length outr.k)] ?_)))
 subst hR
 refine ie (A7 ?_)
 exact zer hr hD (P8 rfl (B2 rfl)) ⟨(outr,outrs),⟨hokoutr,hrowsoutrs⟩⟩ (mc [[bx b1 (G4 s) 42],vo B7 78 outr outrs] [false,true] rfl (by first|rfl|(simp only [List.length_set]<;>rfl))) (A4.con1 (B5 0 rfl) fn0)
def A1t:Mod :=
 {Mod.zero with auto:=true,visible:=true}
theorem C3n (R:Mod) (hR:A1t=R):J8 Tryz.prog 99 [] [] (ag (A1n R)):=by
 refine zco Tryz.func99 [] fun X hX hr hD=>?_
 replace hR:=(A1t.eq_1 ..).symm.trans hR
 refine sr 1 rfl (K0 1 0 [] (fun b1=>[(0,pt b1 0)]) (fun b1=>[bx b1 (A1n Mod.zero) 47]) (fun b1=>?_))
 refine ie (sr 2 rfl (zrg 2 0 [0] [] [bx b1 (A1n ({Mod.zero with auto:=true,visible:=true})) 47] ?_))
 subst hR
 refine ie (A7 ?_)
 exact zer hr hD (P8 rfl (J0 (us:=A1n ({Mod.zero with auto:=true,visible:=true})) D4n rfl 0 rfl rfl rfl)) () (mk [false] rfl) fn0
def A1z (cols:Int) (rows:Int):ScrC×List (Rwc Cel)×List (Rwc Cel)×List Bool :=
 (D5 (A6r cols) fun (y3:List Bool×Int)=>(D5 (A0q cols rows Sty.zero) fun (y2:List (Rwc Cel))=>(D5 (A0q cols rows Sty.zero) fun (y9:List (Rwc Cel))=>({ScrC.zero with cols:=cols,rows:=rows,modes:=A1t,bottom:=(IntKind.i64.wrap (rows - (1:Int)))},y2,y9,y3.1))))
theorem C0l (c r:Int):(A1z c r).1.cols=c∧(A1z c r).1.rows=r∧(A1z c r).1.title.length=0:=⟨rfl,rfl,rfl⟩
theorem C2g (cols:Int) (rows:Int) (hcr:2≤cols∧cols≤80∧1≤rows∧rows≤40) (R:ScrC×List (Rwc Cel)×List (Rwc Cel)×List Bool) (hR:A1z cols rows=R):Con Tryz.prog 56 [iv cols,iv rows] [] [] ({t:VR×List Rwq // VOk 2 R.2.1.length t.1∧C8 t.2 R.2.1}×{t:VR×List Rwq // VOk 2 R.2.2.1.length t.1∧C8 t.2 R.2.2.1}×{r:VR // VOk 1 R.2.2.2.length r}) (fun x=>ag (A6 R.1 ⟨va x.1.1.1.q,R.2.1.length,x.1.1.1.k⟩ ⟨va x.2.1.1.1.q,R.2.2.1.length,x.2.1.1.1.k⟩ ⟨none,0,0⟩ ⟨va x.2.2.1.q,R.2.2.2.length,x.2.2.1.k⟩)) (fun x=>((vo B7 78 x.1.1.1 x.1.1.2)++((vo B7 78 x.2.1.1.1 x.2.1.1.2)++((vo D3 4 x.2.2.1 R.2.2.2)++([]))))) (fun x=>[C3 B4 x.1.1.2 R.2.1,C3 B4 x.2.1.1.2 R.2.2.1]):=by
 refine zco Tryz.func56 [(0,iv cols),(1,iv rows)] fun X hX hr hD=>?_
 replace hR:=(A1z.eq_1 ..).symm.trans hR
 refine sr 1 rfl (K0 1 0 [] (fun b1=>[(4,pt b1 0)]) (fun b1=>[bx b1 (A6 ScrC.zero ⟨none,0,0⟩ ⟨none,0,0⟩ ⟨none,0,0⟩ ⟨none,0,0⟩) 52]) (fun b1=>?_))
 refine ie (sr 7 rfl (ip' 1 6 [(8,iv cols)] ?_))
 have hQ:=F5 hR;clear hR;obtain ⟨y3,hy3,hR⟩:=hQ
 refine it rfl (H2 (L2:=[bx b1 (A6 ScrC.zero ⟨none,0,0⟩ ⟨none,0,0⟩ ⟨none,0,0⟩ ⟨none,0,0⟩) 52]) (C3c cols y3 hy3) rfl rfl rfl rfl rfl fn0 (List.Perm.refl _) (fun ⟨r2,hk3⟩=>(bx b1 (A6 ScrC.zero ⟨none,0,0⟩ ⟨none,0,0⟩ ⟨none,0,0⟩ ⟨none,0,0⟩) 52::(vo D3 4 r2 y3.1)++([]))) (fun ⟨r2,hk3⟩=>H5 [vo D3 4 r2 y3.1,[bx b1 (A6 ScrC.zero ⟨none,0,0⟩ ⟨none,0,0⟩ ⟨none,0,0⟩ ⟨none,0,0⟩) 52]] [1,0] 2 rfl (by decide) (by first|rfl|simp only [List.flatten_cons,List.flatten_nil,List.append_nil,List.cons_append,List.nil_append,List.append_assoc]) [[bx b1 (A6 ScrC.zero ⟨none,0,0⟩ ⟨none,0,0⟩ ⟨none,0,0⟩ ⟨none,0,0⟩) 52],vo D3 4 r2 y3.1] rfl (by first|rfl|simp only [List.flatten_cons,List.flatten_nil,List.append_nil,List.cons_append,List.nil_append,List.append_assoc]))) fun ⟨r2,hk3⟩=>?_
 have:=VOk.le hk3
 have:=VOk.cap hk3
 refine ip' 5 0 [(5,.slice (va r2.q) y3.1.length r2.k)] ?_
 refine ie (sr 16 rfl (zrl 5 11 [] [(12,iv cols),(13,iv rows),(14,iv cols),(15,iv rows),(16,ag (G4 Sty.zero))] ?_))
 have hQ:=F5 hR;clear hR;obtain ⟨y2,hy2,hR⟩:=hQ
 refine it rfl (H2 (L2:=(bx b1 (A6 ScrC.zero ⟨none,0,0⟩ ⟨none,0,0⟩ ⟨none,0,0⟩ ⟨none,0,0⟩) 52::(vo D3 4 r2 y3.1)++([]))) (A6m cols rows Sty.zero (by first|omega|(dsimp only;omega)) y2 hy2) rfl rfl rfl rfl rfl fn0 (List.Perm.refl _) (fun ⟨⟨r4,rs5⟩,hp8⟩=>(bx b1 (A6 ScrC.zero ⟨none,0,0⟩ ⟨none,0,0⟩ ⟨none,0,0⟩ ⟨none,0,0⟩) 52::(vo B7 78 r4 rs5)++((vo D3 4 r2 y3.1)++([])))) (fun ⟨⟨r4,rs5⟩,hp8⟩=>H5 [vo B7 78 r4 rs5,[bx b1 (A6 ScrC.zero ⟨none,0,0⟩ ⟨none,0,0⟩ ⟨none,0,0⟩ ⟨none,0,0⟩) 52],vo D3 4 r2 y3.1] [1,0,2] 3 rfl (by decide) (by first|rfl|simp only [List.flatten_cons,List.flatten_nil,List.append_nil,List.cons_append,List.nil_append,List.append_assoc]) [[bx b1 (A6 ScrC.zero ⟨none,0,0⟩ ⟨none,0,0⟩ ⟨none,0,0⟩ ⟨none,0,0⟩) 52],vo B7 78 r4 rs5,vo D3 4 r2 y3.1] rfl (by first|rfl|simp only [List.flatten_cons,List.flatten_nil,List.append_nil,List.cons_append,List.nil_append,List.append_assoc]))) fun ⟨⟨r4,rs5⟩,hp8⟩=>?_
 try dsimp only at hp8
 obtain ⟨hk6,hw7⟩:=hp8
 have:=VOk.le hk6
 have:=VOk.cap hk6
 have:=hw7.1
 refine zrl 3 7 [] [(18,iv cols),(19,iv rows),(20,ag (G4 Sty.zero))] ?_
 have hQ:=F5 hR;clear hR;obtain ⟨y9,hy9,hR⟩:=hQ
 refine it rfl (H2 (L2:=(bx b1 (A6 ScrC.zero ⟨none,0,0⟩ ⟨none,0,0⟩ ⟨none,0,0⟩ ⟨none,0,0⟩) 52::(vo B7 78 r4 rs5)++((vo D3 4 r2 y3.1)++([])))) (A6m cols rows Sty.zero (by first|omega|(dsimp only;omega)) y9 hy9) rfl rfl rfl rfl rfl fn0 (List.Perm.refl _) (fun ⟨⟨r9,rs10⟩,hp13⟩=>(bx b1 (A6 ScrC.zero ⟨none,0,0⟩ ⟨none,0,0⟩ ⟨none,0,0⟩ ⟨none,0,0⟩) 52::(vo B7 78 r9 rs10)++((vo B7 78 r4 rs5)++((vo D3 4 r2 y3.1)++([]))))) (fun ⟨⟨r9,rs10⟩,hp13⟩=>H5 [vo B7 78 r9 rs10,[bx b1 (A6 ScrC.zero ⟨none,0,0⟩ ⟨none,0,0⟩ ⟨none,0,0⟩ ⟨none,0,0⟩) 52],vo B7 78 r4 rs5,vo D3 4 r2 y3.1] [1,0,2,3] 4 rfl (by decide) (by first|rfl|simp only [List.flatten_cons,List.flatten_nil,List.append_nil,List.cons_append,List.nil_append,List.append_assoc]) [[bx b1 (A6 ScrC.zero ⟨none,0,0⟩ ⟨none,0,0⟩ ⟨none,0,0⟩ ⟨none,0,0⟩) 52],vo B7 78 r9 rs10,vo B7 78 r4 rs5,vo D3 4 r2 y3.1] rfl (by first|rfl|simp only [List.flatten_cons,List.flatten_nil,List.append_nil,List.cons_append,List.nil_append,List.append_assoc]))) fun ⟨⟨r9,rs10⟩,hp13⟩=>?_
 try dsimp only at hp13
 obtain ⟨hk11,hw12⟩:=hp13
 have:=VOk.le hk11
 have:=VOk.cap hk11
 have:=hw12.1
 refine zca (C3n _ rfl) fn0 ?_
 refine ip' 1 4 [(23,iv rows)] ?_
 refine ix rfl (I3.pure rfl) ?_
 refine zrg 3 0 [0] [] (bx b1 (A6 ({ScrC.zero with cols:=cols,rows:=rows,modes:=A1t,bottom:=(IntKind.i64.wrap (rows - (1:Int)))}) ⟨va r4.q,y2.length,r4.k⟩ ⟨va r9.q,y9.length,r9.k⟩ ⟨none,0,0⟩ ⟨va r2.q,y3.1.length,r2.k⟩) 52::(vo B7 78 r9 rs10)++((vo B7 78 r4 rs5)++((vo D3 4 r2 y3.1)++([])))) ?_
 subst hR
 refine ie (A7 (Z3 (H5 [[bx b1 (A6 ({ScrC.zero with cols:=cols,rows:=rows,modes:=A1t,bottom:=(IntKind.i64.wrap (rows - (1:Int)))}) ⟨va r4.q,y2.length,r4.k⟩ ⟨va r9.q,y9.length,r9.k⟩ ⟨none,0,0⟩ ⟨va r2.q,y3.1.length,r2.k⟩) 52],vo B7 78 r9 rs10,vo B7 78 r4 rs5,vo D3 4 r2 y3.1] [0,2,1,3] 4 rfl (by decide) rfl [[bx b1 (A6 ({ScrC.zero with cols:=cols,rows:=rows,modes:=A1t,bottom:=(IntKind.i64.wrap (rows - (1:Int)))}) ⟨va r4.q,y2.length,r4.k⟩ ⟨va r9.q,y9.length,r9.k⟩ ⟨none,0,0⟩ ⟨va r2.q,y3.1.length,r2.k⟩) 52],vo B7 78 r4 rs5,vo B7 78 r9 rs10,vo D3 4 r2 y3.1] rfl (by first|rfl|simp)) ?_))
 exact zer hr hD (P8 rfl (Q5 (us:=A6 ({ScrC.zero with cols:=cols,rows:=rows,modes:=A1t,bottom:=(IntKind.i64.wrap (rows - (1:Int)))}) ⟨va r4.q,y2.length,r4.k⟩ ⟨va r9.q,y9.length,r9.k⟩ ⟨none,0,0⟩ ⟨va r2.q,y3.1.length,r2.k⟩) A7u rfl 0 rfl rfl)) (⟨(r4,rs5),⟨hk6,hw7⟩⟩,⟨(r9,rs10),⟨hk11,hw12⟩⟩,⟨r2,hk3⟩) (mc [[bx b1 (A6 ({ScrC.zero with cols:=cols,rows:=rows,modes:=A1t,bottom:=(IntKind.i64.wrap (rows - (1:Int)))}) ⟨va r4.q,y2.length,r4.k⟩ ⟨va r9.q,y9.length,r9.k⟩ ⟨none,0,0⟩ ⟨va r2.q,y3.1.length,r2.k⟩) 52],vo B7 78 r4 rs5,vo B7 78 r9 rs10,vo D3 4 r2 y3.1] [false,true,true,true] rfl (by first|rfl|(simp only [List.length_set]<;>rfl))) (A4.con1 (B5 1 rfl) (A4.con1 (B5 0 rfl) fn0))
def B4g:Bool :=
 true
theorem B8j (R:Bool) (hR:B4g=R):J8 Tryz.prog 90 [ag (F8 (⟨37,1049,1,Col.zero,[]⟩:Act))] [] (bv R):=by
 refine zco Tryz.func90 [(0,ag (F8 (⟨37,1049,1,Col.zero,[]⟩:Act)))] fun X hX hr hD=>?_
 replace hR:=(B4g.eq_1 ..).symm.trans hR
 refine sr 2 rfl (K0 2 0 [] (fun b1=>[(1,pt b1 0)]) (fun b1=>[bx b1 (F8 (⟨37,1049,1,Col.zero,[]⟩:Act)) 81]) (fun b1=>?_))
 refine ie (A1 (sr 2 rfl (zrl 2 0 [0] [(4,iv 37)] ?_)))
 refine ie (B0 (A1 (sr 2 rfl (ip' 2 0 [(5,bv false)] ?_))))
 refine ie (K6 rfl (sr 2 rfl (ip' 2 0 [(5,bv false)] ?_)))
 refine ie (K6 rfl (sr 2 rfl (ip' 2 0 [(5,bv false)] ?_)))
 refine ie (K6 rfl (sr 2 rfl (ip' 2 0 [(5,bv false)] ?_)))
 refine ie (K6 rfl (sr 2 rfl (ip' 2 0 [(5,bv false)] ?_)))
 refine ie (K6 rfl (sr 2 rfl (ip' 2 0 [(5,bv false)] ?_)))
 refine ie (K6 rfl (sr 2 rfl (ip' 2 0 [(5,bv false)] ?_)))
 refine ie (K6 rfl (sr 2 rfl (ip' 2 0 [(5,bv false)] ?_)))
 refine ie (K6 rfl (sr 2 rfl (ip' 2 0 [(5,bv false)] ?_)))
 refine ie (K6 rfl (sr 2 rfl (ip' 2 0 [(5,bv false)] ?_)))
 refine ie (K6 rfl (sr 2 rfl (ip' 2 0 [(5,bv false)] ?_)))
 refine ie (K6 rfl (sr 2 rfl (ip' 2 0 [(5,bv false)] ?_)))
 refine ie (K6 rfl (sr 2 rfl (ip' 2 0 [(5,bv false)] ?_)))
 refine ie (K6 rfl (sr 2 rfl (ip' 2 0 [(5,bv false)] ?_)))
 refine ie (K6 rfl (sr 2 rfl (ip' 2 0 [(5,bv false)] ?_)))
 refine ie (K6 rfl (sr 2 rfl (ip' 2 0 [(5,bv false)] ?_)))
 refine ie (K6 rfl (sr 2 rfl (ip' 2 0 [(5,bv false)] ?_)))
 refine ie (K6 rfl (sr 2 rfl (ip' 2 0 [(5,bv false)] ?_)))
 refine ie (K6 rfl (A3 2 rfl (ip' 2 0 [(5,bv false)] ?_)))
 refine A2 (nx (K6 rfl (sr 2 rfl (ip' 2 0 [(25,bv false)] ?_))))
 refine ie (K6 rfl (sr 2 rfl (ip' 2 0 [(30,bv true)] ?_)))
 refine ie (H7 rfl (sr 14 rfl (zrl 14 0 [0,0,0] [(2,bv true)] ?_)))
 subst hR
 refine ie (A7 ?_)
 exact E6 hr hD
def X8 (s:ScrC) (sMain:List (Rwc Cel)) (sAlt:List (Rwc Cel)) (sTabs:List Bool):Sav :=
 (⟨true,s.cursor,s.style,s.sets,s.modes.origin⟩:Sav)
theorem C0w (s:ScrC) (sMain:List (Rwc Cel)) (sAlt:List (Rwc Cel)) (sTabs:List Bool) (sMainq:Option Addr) (sMainrs:List Rwq) (sMaink:Nat) (sAltq:Option Addr) (sAltrs:List Rwq) (sAltk:Nat) (sTabsq:Option Addr) (sTabsk:Nat) (hrowssMainrs:C8 sMainrs sMain) (hlsMain:sMain.length≤9223372036854775807) (hcsMain:sMain.length≤sMaink) (hrowssAltrs:C8 sAltrs sAlt) (hlsAlt:sAlt.length≤9223372036854775807) (hcsAlt:sAlt.length≤sAltk) (hlsTabs:sTabs.length≤9223372036854775807) (hcsTabs:sTabs.length≤sTabsk) (R:Sav) (hR:X8 s sMain sAlt sTabs=R):J8 Tryz.prog 94 [ag (A6 s ⟨sMainq,sMain.length,sMaink⟩ ⟨sAltq,sAlt.length,sAltk⟩ ⟨none,0,0⟩ ⟨sTabsq,sTabs.length,sTabsk⟩)] [sl B7 sMainq sMainrs,C3 B4 sMainrs sMain,sl B7 sAltq sAltrs,C3 B4 sAltrs sAlt,sl D3 sTabsq sTabs] (ag (X7 R)):=by
 refine zco Tryz.func94 [(0,ag (A6 s ⟨sMainq,sMain.length,sMaink⟩ ⟨sAltq,sAlt.length,sAltk⟩ ⟨none,0,0⟩ ⟨sTabsq,sTabs.length,sTabsk⟩))] fun X hX hr hD=>?_
 replace hR:=(X8.eq_1 ..).symm.trans hR
 have:=hrowssMainrs.1
 have:=hrowssAltrs.1
 refine sr 2 rfl (A9f 2 0 [] (fun b1 b2=>[(1,pt b1 0),(2,pt b2 0)]) (fun b1 b2=>[bx b2 (X7 Sav.zero) 50,bx b1 (A6 s ⟨sMainq,sMain.length,sMaink⟩ ⟨sAltq,sAlt.length,sAltk⟩ ⟨none,0,0⟩ ⟨sTabsq,sTabs.length,sTabsk⟩) 52]) (fun b1 b2=>?_))
 refine ie (sr 11 rfl (zrg 11 0 [1,1,1,1,0] [] [bx b2 (X7 (⟨true,s.cursor,s.style,s.sets,s.modes.origin⟩:Sav)) 50,bx b1 (A6 s ⟨sMainq,sMain.length,sMaink⟩ ⟨sAltq,sAlt.length,sAltk⟩ ⟨none,0,0⟩ ⟨sTabsq,sTabs.length,sTabsk⟩) 52] ?_))
 subst hR
 refine ie (A7 ?_)
 exact zer hr hD (P8 rfl (J0 (us:=X7 (⟨true,s.cursor,s.style,s.sets,s.modes.origin⟩:Sav)) D4s rfl 0 rfl rfl rfl)) () (mk [false,false] rfl) fn0
def A6l (s:ScrC) (sMain:List (Rwc Cel)) (sAlt:List (Rwc Cel)) (sTabs:List Bool) (x:Sav):ScrC×List (Rwc Cel)×List (Rwc Cel)×List Bool :=
 ({s with cursor:=x.cursor,style:=x.style,sets:=x.sets,modes:={s.modes with origin:=x.origin}},sMain,sAlt,sTabs)
theorem B5b (s:ScrC) (sMain:List (Rwc Cel)) (sAlt:List (Rwc Cel)) (sTabs:List Bool) (x:Sav) (sMainq:Option Addr) (sMainrs:List Rwq) (sMaink:Nat) (sAltq:Option Addr) (sAltrs:List Rwq) (sAltk:Nat) (sTabsq:Option Addr) (sTabsk:Nat) (hrowssMainrs:C8 sMainrs sMain) (hlsMain:sMain.length≤9223372036854775807) (hcsMain:sMain.length≤sMaink) (hrowssAltrs:C8 sAltrs sAlt) (hlsAlt:sAlt.length≤9223372036854775807) (hcsAlt:sAlt.length≤sAltk) (hlsTabs:sTabs.length≤9223372036854775807) (hcsTabs:sTabs.length≤sTabsk) (R:ScrC×List (Rwc Cel)×List (Rwc Cel)×List Bool) (hR:A6l s sMain sAlt sTabs x=R):Con Tryz.prog 95 [ag (A6 s ⟨sMainq,sMain.length,sMaink⟩ ⟨sAltq,sAlt.length,sAltk⟩ ⟨none,0,0⟩ ⟨sTabsq,sTabs.length,sTabsk⟩),ag (X7 x)] [] [sl B7 sMainq sMainrs,C3 B4 sMainrs sMain,sl B7 sAltq sAltrs,C3 B4 sAltrs sAlt,sl D3 sTabsq sTabs] ({t:Option Addr×List Rwq×Nat // C8 t.2.1 R.2.1∧R.2.1.length≤t.2.2∧R.2.1.length≤9223372036854775807}×{t:Option Addr×List Rwq×Nat // C8 t.2.1 R.2.2.1∧R.2.2.1.length≤t.2.2∧R.2.2.1.length≤9223372036854775807}×{t:Option Addr×Nat // R.2.2.2.length≤t.2∧R.2.2.2.length≤9223372036854775807}) (fun x=>ag (A6 R.1 ⟨x.1.1.1,R.2.1.length,x.1.1.2.2⟩ ⟨x.2.1.1.1,R.2.2.1.length,x.2.1.1.2.2⟩ ⟨none,0,0⟩ ⟨x.2.2.1.1,R.2.2.2.length,x.2.2.1.2⟩)) (fun x=>[]) (fun x=>[sl B7 x.1.1.1 x.1.1.2.1,C3 B4 x.1.1.2.1 R.2.1,sl B7 x.2.1.1.1 x.2.1.1.2.1,C3 B4 x.2.1.1.2.1 R.2.2.1,sl D3 x.2.2.1.1 R.2.2.2]):=by
 refine zco Tryz.func95 [(0,ag (A6 s ⟨sMainq,sMain.length,sMaink⟩ ⟨sAltq,sAlt.length,sAltk⟩ ⟨none,0,0⟩ ⟨sTabsq,sTabs.length,sTabsk⟩)),(1,ag (X7 x))] fun X hX hr hD=>?_
 replace hR:=(A6l.eq_1 ..).symm.trans hR
 have:=hrowssMainrs.1
 have:=hrowssAltrs.1
 refine sr 3 rfl (C8s 3 0 [] (fun b1 b2 b3=>[(2,pt b1 0),(3,pt b2 0),(4,pt b3 0)]) (fun b1 b2 b3=>[bx b3 (A6 ScrC.zero ⟨none,0,0⟩ ⟨none,0,0⟩ ⟨none,0,0⟩ ⟨none,0,0⟩) 52,bx b2 (X7 x) 50,bx b1 (A6 s ⟨sMainq,sMain.length,sMaink⟩ ⟨sAltq,sAlt.length,sAltk⟩ ⟨none,0,0⟩ ⟨sTabsq,sTabs.length,sTabsk⟩) 52]) (fun b1 b2 b3=>?_))
 refine ie (sh 17 [(17,[bx b3 (A6 ScrC.zero ⟨none,0,0⟩ ⟨none,0,0⟩ ⟨none,0,0⟩ ⟨none,0,0⟩) 52]),(17,[bx b2 (X7 x) 50]),(9,[bx b1 (A6 s ⟨sMainq,sMain.length,sMaink⟩ ⟨sAltq,sAlt.length,sAltk⟩ ⟨none,0,0⟩ ⟨sTabsq,sTabs.length,sTabsk⟩) 52])] [sl B7 sMainq sMainrs,C3 B4 sMainrs sMain,sl B7 sAltq sAltrs,C3 B4 sAltrs sAlt,sl D3 sTabsq sTabs] [bx b3 (A6 ScrC.zero ⟨none,0,0⟩ ⟨none,0,0⟩ ⟨none,0,0⟩ ⟨none,0,0⟩) 52,bx b2 (X7 x) 50,bx b1 (A6 s ⟨sMainq,sMain.length,sMaink⟩ ⟨sAltq,sAlt.length,sAltk⟩ ⟨none,0,0⟩ ⟨sTabsq,sTabs.length,sTabsk⟩) 52] (zml 17 0) (by kernel_rfl) rfl (by kernel_rfl) (by kernel_rfl) (by kernel_rfl) (mk [true,true,true] rfl) A4.refl ?_)
 refine zhp [0,2,4,6] 13 (zml 17 85) [(5,pt b2 1),(7,pt b2 4),(9,pt b2 12),(11,pt b2 18)] ?_
 refine zhl 1 [bx b3 (A6 ScrC.zero ⟨none,0,0⟩ ⟨none,0,0⟩ ⟨none,0,0⟩ ⟨none,0,0⟩) 52,bx b2 (X7 x) 50,bx b1 (A6 s ⟨sMainq,sMain.length,sMaink⟩ ⟨sAltq,sAlt.length,sAltk⟩ ⟨none,0,0⟩ ⟨sTabsq,sTabs.length,sTabsk⟩) 52] (zml 17 87) rfl (M3 (us:=A5l x.cursor) D0f rfl rfl 1 rfl rfl rfl) ?_
 refine zhp [8] 11 (zml 17 343) [(13,pt b1 6)] ?_
 refine zhl 3 [bx b3 (A6 ScrC.zero ⟨none,0,0⟩ ⟨none,0,0⟩ ⟨none,0,0⟩ ⟨none,0,0⟩) 52,bx b2 (X7 x) 50] (zml 17 351) rfl (M3 (us:=G4 x.style) C4t rfl rfl 1 rfl rfl rfl) ?_
 refine zhl 5 [bx b3 (A6 ScrC.zero ⟨none,0,0⟩ ⟨none,0,0⟩ ⟨none,0,0⟩ ⟨none,0,0⟩) 52,bx b2 (X7 x) 50] (zml 17 383) rfl (M3 (us:=A5p x.sets) C7y rfl rfl 1 rfl rfl rfl) ?_
 refine zhl 7 [bx b3 (A6 ScrC.zero ⟨none,0,0⟩ ⟨none,0,0⟩ ⟨none,0,0⟩ ⟨none,0,0⟩) 52,bx b2 (X7 x) 50] (zml 17 511) rfl (D6 (v:=bv x.origin) ty4 rfl rfl 1 rfl rfl) ?_
 refine zho 9 [bx b3 (A6 ScrC.zero ⟨none,0,0⟩ ⟨none,0,0⟩ ⟨none,0,0⟩ ⟨none,0,0⟩) 52,bx b2 (X7 x) 50] (zml 17 1023) rfl (L5 (us:=A5l x.cursor) (cs':=A6 ({s with cursor:=x.cursor}) ⟨sMainq,sMain.length,sMaink⟩ ⟨sAltq,sAlt.length,sAltk⟩ ⟨none,0,0⟩ ⟨sTabsq,sTabs.length,sTabsk⟩) D0f rfl rfl rfl 2 rfl rfl rfl rfl rfl rfl) (fun _=>(mk [true,true,false] rfl)) (fun _=>A4.refl) fun _=>?_
 refine zhp [10] 6 (zml 17 2047) [(14,pt b1 9)] ?_
 refine zho 11 [bx b3 (A6 ScrC.zero ⟨none,0,0⟩ ⟨none,0,0⟩ ⟨none,0,0⟩ ⟨none,0,0⟩) 52,bx b2 (X7 x) 50] (zml 17 4095) rfl (L5 (us:=G4 x.style) (cs':=A6 ({s with cursor:=x.cursor,style:=x.style}) ⟨sMainq,sMain.length,sMaink⟩ ⟨sAltq,sAlt.length,sAltk⟩ ⟨none,0,0⟩ ⟨sTabsq,sTabs.length,sTabsk⟩) C4t rfl rfl rfl 2 rfl rfl rfl rfl rfl rfl) (fun _=>(mk [true,true,false] rfl)) (fun _=>A4.refl) fun _=>?_
 refine zhp [12] 4 (zml 17 8191) [(15,pt b1 17)] ?_
 refine zho 13 [bx b3 (A6 ScrC.zero ⟨none,0,0⟩ ⟨none,0,0⟩ ⟨none,0,0⟩ ⟨none,0,0⟩) 52,bx b2 (X7 x) 50] (zml 17 16383) rfl (L5 (us:=A5p x.sets) (cs':=A6 ({s with cursor:=x.cursor,style:=x.style,sets:=x.sets}) ⟨sMainq,sMain.length,sMaink⟩ ⟨sAltq,sAlt.length,sAltk⟩ ⟨none,0,0⟩ ⟨sTabsq,sTabs.length,sTabsk⟩) C7y rfl rfl rfl 2 rfl rfl rfl rfl rfl rfl) (fun _=>(mk [true,true,false] rfl)) (fun _=>A4.refl) fun _=>?_
 refine zhp [14,15] 1 (zml 17 65535) [(17,pt b1 27)] ?_
 refine zho 16 [bx b3 (A6 ScrC.zero ⟨none,0,0⟩ ⟨none,0,0⟩ ⟨none,0,0⟩ ⟨none,0,0⟩) 52,bx b2 (X7 x) 50] (zml 17 131071) rfl (L5 (us:=[bv x.origin]) (cs':=A6 ({s with cursor:=x.cursor,style:=x.style,sets:=x.sets,modes:={s.modes with origin:=x.origin}}) ⟨sMainq,sMain.length,sMaink⟩ ⟨sAltq,sAlt.length,sAltk⟩ ⟨none,0,0⟩ ⟨sTabsq,sTabs.length,sTabsk⟩) ty4 rfl rfl rfl 2 rfl rfl rfl rfl rfl rfl) (fun _=>(mk [true,true,false] rfl)) (fun _=>A4.refl) fun _=>?_
 refine A9z (by kernel_rfl) ?_
 refine sr 2 rfl (zrg 2 0 [2,0] [] [bx b3 (A6 ({s with cursor:=x.cursor,style:=x.style,sets:=x.sets,modes:={s.modes with origin:=x.origin}}) ⟨sMainq,sMain.length,sMaink⟩ ⟨sAltq,sAlt.length,sAltk⟩ ⟨none,0,0⟩ ⟨sTabsq,sTabs.length,sTabsk⟩) 52,bx b2 (X7 x) 50,bx b1 (A6 ({s with cursor:=x.cursor,style:=x.style,sets:=x.sets,modes:={s.modes with origin:=x.origin}}) ⟨sMainq,sMain.length,sMaink⟩ ⟨sAltq,sAlt.length,sAltk⟩ ⟨none,0,0⟩ ⟨sTabsq,sTabs.length,sTabsk⟩) 52] ?_)
 subst hR
 refine ie (A7 ?_)
 exact zer hr hD (P8 rfl (Q5 (us:=A6 ({s with cursor:=x.cursor,style:=x.style,sets:=x.sets,modes:={s.modes with origin:=x.origin}}) ⟨sMainq,sMain.length,sMaink⟩ ⟨sAltq,sAlt.length,sAltk⟩ ⟨none,0,0⟩ ⟨sTabsq,sTabs.length,sTabsk⟩) A7u rfl 0 rfl rfl)) (⟨(sMainq,sMainrs,sMaink),⟨hrowssMainrs,(by first|omega|(simp only [List.length_take,List.length_drop,List.length_append,List.length_cons,List.length_nil,List.length_set,List.length_map];omega)|decide),(by first|omega|(simp only [List.length_take,List.length_drop,List.length_append,List.length_cons,List.length_nil,List.length_set,List.length_map];omega)|decide)⟩⟩,⟨(sAltq,sAltrs,sAltk),⟨hrowssAltrs,(by first|omega|(simp only [List.length_take,List.length_drop,List.length_append,List.length_cons,List.length_nil,List.length_set,List.length_map];omega)|decide),(by first|omega|(simp only [List.length_take,List.length_drop,List.length_append,List.length_cons,List.length_nil,List.length_set,List.length_map];omega)|decide)⟩⟩,(zq sTabsq sTabsk)) (mk [false,false,false] rfl) (A4.con1 (B5 0 rfl) (A4.con1 (B5 1 rfl) (A4.con1 (B5 2 rfl) (A4.con1 (B5 3 rfl) (A4.con1 (B5 4 rfl) fn0)))))
def A9p (s:ScrC) (sMain:List (Rwc Cel)) (sAlt:List (Rwc Cel)) (sTabs:List Bool) (on:Bool):ScrC×List (Rwc Cel)×List (Rwc Cel)×List Bool :=
 (D5 (A0q s.cols s.rows Sty.zero) fun (y2:List (Rwc Cel))=>(bif (on&&(!s.onAlt)) then ({s with kept:=(X8 s sMain sAlt sTabs),cursor:={s.cursor with wrap:=false},onAlt:=true},sMain,y2,sTabs) else (bif ((!on)&&s.onAlt) then (D5 (A6l ({s with onAlt:=false}) sMain sAlt sTabs s.kept) fun (y6:ScrC×List (Rwc Cel)×List (Rwc Cel)×List Bool)=>(y6.1,y6.2.1,y6.2.2.1,y6.2.2.2)) else (s,sMain,sAlt,sTabs))))
theorem C3a (s:ScrC) (sMain:List (Rwc Cel)) (sAlt:List (Rwc Cel)) (sTabs:List Bool) (on:Bool) (sMainq:Option Addr) (sMainrs:List Rwq) (sMaink:Nat) (sAltq:Option Addr) (sAltrs:List Rwq) (sAltk:Nat) (sTabsq:Option Addr) (sTabsk:Nat) (hrowssMainrs:C8 sMainrs sMain) (hlsMain:sMain.length≤9223372036854775807) (hcsMain:sMain.length≤sMaink) (hrowssAltrs:C8 sAltrs sAlt) (hlsAlt:sAlt.length≤9223372036854775807) (hcsAlt:sAlt.length≤sAltk) (hlsTabs:sTabs.length≤9223372036854775807) (hcsTabs:sTabs.length≤sTabsk) (hsz:s.cols≤80∧s.rows≤40) (R:ScrC×List (Rwc Cel)×List (Rwc Cel)×List Bool) (hR:A9p s sMain sAlt sTabs on=R):Con Tryz.prog 93 [ag (A6 s ⟨sMainq,sMain.length,sMaink⟩ ⟨sAltq,sAlt.length,sAltk⟩ ⟨none,0,0⟩ ⟨sTabsq,sTabs.length,sTabsk⟩),iv 1049,bv on] [] [sl B7 sMainq sMainrs,C3 B4 sMainrs sMain,sl B7 sAltq sAltrs,C3 B4 sAltrs sAlt,sl D3 sTabsq sTabs] ({t:Option Addr×List Rwq×Nat // C8 t.2.1 R.2.1∧R.2.1.length≤t.2.2∧R.2.1.length≤9223372036854775807}×{t:Option Addr×List Rwq×Nat // C8 t.2.1 R.2.2.1∧R.2.2.1.length≤t.2.2∧R.2.2.1.length≤9223372036854775807}×{t:Option Addr×Nat // R.2.2.2.length≤t.2∧R.2.2.2.length≤9223372036854775807}) (fun x=>ag (A6 R.1 ⟨x.1.1.1,R.2.1.length,x.1.1.2.2⟩ ⟨x.2.1.1.1,R.2.2.1.length,x.2.1.1.2.2⟩ ⟨none,0,0⟩ ⟨x.2.2.1.1,R.2.2.2.length,x.2.2.1.2⟩)) (fun x=>[]) (fun x=>[sl B7 x.1.1.1 x.1.1.2.1,C3 B4 x.1.1.2.1 R.2.1,sl B7 x.2.1.1.1 x.2.1.1.2.1,C3 B4 x.2.1.1.2.1 R.2.2.1,sl D3 x.2.2.1.1 R.2.2.2]):=by
 refine zco Tryz.func93 [(0,ag (A6 s ⟨sMainq,sMain.length,sMaink⟩ ⟨sAltq,sAlt.length,sAltk⟩ ⟨none,0,0⟩ ⟨sTabsq,sTabs.length,sTabsk⟩)),(1,iv 1049),(2,bv on)] fun X hX hr hD=>?_
 replace hR:=(A9p.eq_1 ..).symm.trans hR
 have:=hrowssMainrs.1
 have:=hrowssAltrs.1
 refine sr 2 rfl (A9f 2 0 [] (fun b1 b2=>[(3,pt b1 0),(6,pt b2 0)]) (fun b1 b2=>[bx b2 (A6 ScrC.zero ⟨none,0,0⟩ ⟨none,0,0⟩ ⟨none,0,0⟩ ⟨none,0,0⟩) 52,bx b1 (A6 s ⟨sMainq,sMain.length,sMaink⟩ ⟨sAltq,sAlt.length,sAltk⟩ ⟨none,0,0⟩ ⟨sTabsq,sTabs.length,sTabsk⟩) 52]) (fun b1 b2=>?_))
 refine ie (sr 7 rfl (zrl 5 2 [1,1] [(9,iv s.cols),(11,iv s.rows),(12,ag (G4 Sty.zero))] ?_))
 have hQ:=F5 hR;clear hR;obtain ⟨y2,hy2,hR⟩:=hQ
 refine it rfl (H2 (L2:=[bx b2 (A6 ScrC.zero ⟨none,0,0⟩ ⟨none,0,0⟩ ⟨none,0,0⟩ ⟨none,0,0⟩) 52,bx b1 (A6 s ⟨sMainq,sMain.length,sMaink⟩ ⟨sAltq,sAlt.length,sAltk⟩ ⟨none,0,0⟩ ⟨sTabsq,sTabs.length,sTabsk⟩) 52]) (A6m s.cols s.rows Sty.zero (by first|omega|(dsimp only;omega)) y2 hy2) rfl rfl rfl rfl rfl fn0 (List.Perm.refl _) (fun ⟨⟨r3,rs4⟩,hp7⟩=>(bx b2 (A6 ScrC.zero ⟨none,0,0⟩ ⟨none,0,0⟩ ⟨none,0,0⟩ ⟨none,0,0⟩) 52::bx b1 (A6 s ⟨sMainq,sMain.length,sMaink⟩ ⟨sAltq,sAlt.length,sAltk⟩ ⟨none,0,0⟩ ⟨sTabsq,sTabs.length,sTabsk⟩) 52::(vo B7 78 r3 rs4)++([]))) (fun ⟨⟨r3,rs4⟩,hp7⟩=>H5 [vo B7 78 r3 rs4,[bx b2 (A6 ScrC.zero ⟨none,0,0⟩ ⟨none,0,0⟩ ⟨none,0,0⟩ ⟨none,0,0⟩) 52],[bx b1 (A6 s ⟨sMainq,sMain.length,sMaink⟩ ⟨sAltq,sAlt.length,sAltk⟩ ⟨none,0,0⟩ ⟨sTabsq,sTabs.length,sTabsk⟩) 52]] [1,2,0] 3 rfl (by decide) (by first|rfl|simp only [List.flatten_cons,List.flatten_nil,List.append_nil,List.cons_append,List.nil_append,List.append_assoc]) [[bx b2 (A6 ScrC.zero ⟨none,0,0⟩ ⟨none,0,0⟩ ⟨none,0,0⟩ ⟨none,0,0⟩) 52],[bx b1 (A6 s ⟨sMainq,sMain.length,sMaink⟩ ⟨sAltq,sAlt.length,sAltk⟩ ⟨none,0,0⟩ ⟨sTabsq,sTabs.length,sTabsk⟩) 52],vo B7 78 r3 rs4] rfl (by first|rfl|simp only [List.flatten_cons,List.flatten_nil,List.append_nil,List.cons_append,List.nil_append,List.append_assoc]))) fun ⟨⟨r3,rs4⟩,hp7⟩=>?_
 try dsimp only at hp7
 obtain ⟨hk5,hw6⟩:=hp7
 have:=VOk.le hk5
 have:=VOk.cap hk5
 have:=hw6.1
 refine ip' 1 0 [(7,.slice (va r3.q) y2.length r3.k)] ?_
 refine ie (A1 (sr 1 rfl (ip' 1 0 [(14,iv 1049)] ?_)))
 refine ie (B0 (sr 2 rfl (ip' 2 0 [(30,bv false)] ?_)))
 refine ie (K6 rfl (sr 2 rfl (ip' 2 0 [(34,bv false)] ?_)))
 refine ie (K6 rfl (sr 2 rfl (ip' 2 0 [(46,bv false)] ?_)))
 refine ie (K6 rfl (sr 2 rfl (ip' 2 0 [(57,bv true)] ?_)))
 refine ie (H7 rfl (sr 6 rfl (ip' 2 4 [(60,bv on)] ?_)))
 refine zia 4 0 60 64 (!s.onAlt) (fun g8=>?_) ?_
 ·refine zrl 4 0 [1] [(64,bv (!s.onAlt))] ?_
  exact A2 (I5 2 60 64 g8 A4.refl (mc [[bx b2 (A6 ScrC.zero ⟨none,0,0⟩ ⟨none,0,0⟩ ⟨none,0,0⟩ ⟨none,0,0⟩) 52],[bx b1 (A6 s ⟨sMainq,sMain.length,sMaink⟩ ⟨sAltq,sAlt.length,sAltk⟩ ⟨none,0,0⟩ ⟨sTabsq,sTabs.length,sTabsk⟩) 52],vo B7 78 r3 rs4] [true,true,true] rfl (by first|rfl|(simp only [List.length_set]<;>rfl))) rfl rfl rfl rfl rfl)
 refine ie ?_
 refine zjb rfl hR ?_ ?_<;>clear hR<;>intro hR h9
 ·have h9p:=h9;try simp only [Bool.and_eq_true,Bool.or_eq_true,Bool.and_eq_false_iff,Bool.or_eq_false_iff,Bool.not_eq_true',Bool.not_eq_false',decide_eq_true_eq,decide_eq_false_iff_not] at h9p
  refine sr 4 rfl (zrl 1 3 [1] [(65,ag (A6 s ⟨sMainq,sMain.length,sMaink⟩ ⟨sAltq,sAlt.length,sAltk⟩ ⟨none,0,0⟩ ⟨sTabsq,sTabs.length,sTabsk⟩))] ?_)
  refine zca (C0w s sMain sAlt sTabs sMainq sMainrs sMaink sAltq sAltrs sAltk sTabsq sTabsk hrowssMainrs (by first|omega|(simp only [List.length_take,List.length_drop,List.length_append,List.length_cons,List.length_nil,List.length_set,List.length_map];omega)|decide) (by first|omega|(simp only [List.length_take,List.length_drop,List.length_append,List.length_cons,List.length_nil,List.length_set,List.length_map];omega)|decide) hrowssAltrs (by first|omega|(simp only [List.length_take,List.length_drop,List.length_append,List.length_cons,List.length_nil,List.length_set,List.length_map];omega)|decide) (by first|omega|(simp only [List.length_take,List.length_drop,List.length_append,List.length_cons,List.length_nil,List.length_set,List.length_map];omega)|decide) (by first|omega|(simp only [List.length_take,List.length_drop,List.length_append,List.length_cons,List.length_nil,List.length_set,List.length_map];omega)|decide) (by first|omega|(simp only [List.length_take,List.length_drop,List.length_append,List.length_cons,List.length_nil,List.length_set,List.length_map];omega)|decide) _ rfl) (A4.pick [1,2,3,4,5] rfl) ?_
  refine zrg 2 0 [1] [] (bx b2 (A6 ScrC.zero ⟨none,0,0⟩ ⟨none,0,0⟩ ⟨none,0,0⟩ ⟨none,0,0⟩) 52::bx b1 (A6 ({s with kept:=(X8 s sMain sAlt sTabs)}) ⟨sMainq,sMain.length,sMaink⟩ ⟨sAltq,sAlt.length,sAltk⟩ ⟨none,0,0⟩ ⟨sTabsq,sTabs.length,sTabsk⟩) 52::(vo B7 78 r3 rs4)++([])) ?_
  refine ie (A3 8 rfl (zrg 8 0 [1,1,1] [] (bx b2 (A6 ScrC.zero ⟨none,0,0⟩ ⟨none,0,0⟩ ⟨none,0,0⟩ ⟨none,0,0⟩) 52::bx b1 (A6 ({s with kept:=(X8 s sMain sAlt sTabs),cursor:={s.cursor with wrap:=false},onAlt:=true}) ⟨sMainq,sMain.length,sMaink⟩ ⟨va r3.q,y2.length,r3.k⟩ ⟨none,0,0⟩ ⟨sTabsq,sTabs.length,sTabsk⟩) 52::(vo B7 78 r3 rs4)++([])) ?_))
  refine A2 (nx (sr 2 rfl (zrg 2 0 [1,0] [] (bx b2 (A6 ({s with kept:=(X8 s sMain sAlt sTabs),cursor:={s.cursor with wrap:=false},onAlt:=true}) ⟨sMainq,sMain.length,sMaink⟩ ⟨va r3.q,y2.length,r3.k⟩ ⟨none,0,0⟩ ⟨sTabsq,sTabs.length,sTabsk⟩) 52::bx b1 (A6 ({s with kept:=(X8 s sMain sAlt sTabs),cursor:={s.cursor with wrap:=false},onAlt:=true}) ⟨sMainq,sMain.length,sMaink⟩ ⟨va r3.q,y2.length,r3.k⟩ ⟨none,0,0⟩ ⟨sTabsq,sTabs.length,sTabsk⟩) 52::(vo B7 78 r3 rs4)++([])) ?_)))
  refine ie (A7 ?_)
  have:=VOk.le hk5
  have:=VOk.cap hk5
  have:=hw6.1
  refine B5j [bx b2 (A6 ({s with kept:=(X8 s sMain sAlt sTabs),cursor:={s.cursor with wrap:=false},onAlt:=true}) ⟨sMainq,sMain.length,sMaink⟩ ⟨va r3.q,y2.length,r3.k⟩ ⟨none,0,0⟩ ⟨sTabsq,sTabs.length,sTabsk⟩) 52,bx b1 (A6 ({s with kept:=(X8 s sMain sAlt sTabs),cursor:={s.cursor with wrap:=false},onAlt:=true}) ⟨sMainq,sMain.length,sMaink⟩ ⟨va r3.q,y2.length,r3.k⟩ ⟨none,0,0⟩ ⟨sTabsq,sTabs.length,sTabsk⟩) 52] [] (T:=78) (c:=B7) (r:=r3) (xs:=rs4) (VOk.cast hk5 (by rw [hw6.1])) (by first|rfl|simp only [List.cons_append,List.append_assoc,List.nil_append,List.append_nil]) ?_
  subst hR
  exact zer hr hD (P8 rfl (Q5 (us:=A6 ({s with kept:=(X8 s sMain sAlt sTabs),cursor:={s.cursor with wrap:=false},onAlt:=true}) ⟨sMainq,sMain.length,sMaink⟩ ⟨va r3.q,y2.length,r3.k⟩ ⟨none,0,0⟩ ⟨sTabsq,sTabs.length,sTabsk⟩) A7u rfl 0 rfl rfl)) (⟨(sMainq,sMainrs,sMaink),⟨hrowssMainrs,(by first|omega|(simp only [List.length_take,List.length_drop,List.length_append,List.length_cons,List.length_nil,List.length_set,List.length_map];omega)|decide),(by first|omega|(simp only [List.length_take,List.length_drop,List.length_append,List.length_cons,List.length_nil,List.length_set,List.length_map];omega)|decide)⟩⟩,⟨(va r3.q,rs4,r3.k),⟨hw6,(by first|omega|(simp only [List.length_take,List.length_drop,List.length_append,List.length_cons,List.length_nil,List.length_set,List.length_map];omega)|decide),(by first|omega|(simp only [List.length_take,List.length_drop,List.length_append,List.length_cons,List.length_nil,List.length_set,List.length_map];omega)|decide)⟩⟩,(zq sTabsq sTabsk)) (mk [false,false] rfl) (A4.con1 (B5 2 rfl) (A4.con1 (B5 3 rfl) (A4.con1 (B5 0 rfl) (A4.con1 (B5 1 rfl) (A4.con1 (B5 6 rfl) fn0)))))
 have h9p:=h9;try simp only [Bool.and_eq_true,Bool.or_eq_true,Bool.and_eq_false_iff,Bool.or_eq_false_iff,Bool.not_eq_true',Bool.not_eq_false',decide_eq_true_eq,decide_eq_false_iff_not] at h9p
 refine sr 6 rfl (ip' 3 3 [(75,bv (!on))] ?_)
 refine zia 3 0 75 78 s.onAlt (fun g10=>?_) ?_
 ·refine zrl 3 0 [1] [(78,bv s.onAlt)] ?_
  exact A2 (I5 2 75 78 g10 A4.refl (mc [[bx b2 (A6 ScrC.zero ⟨none,0,0⟩ ⟨none,0,0⟩ ⟨none,0,0⟩ ⟨none,0,0⟩) 52],[bx b1 (A6 s ⟨sMainq,sMain.length,sMaink⟩ ⟨sAltq,sAlt.length,sAltk⟩ ⟨none,0,0⟩ ⟨sTabsq,sTabs.length,sTabsk⟩) 52],vo B7 78 r3 rs4] [true,true,true] rfl (by first|rfl|(simp only [List.length_set]<;>rfl))) rfl rfl rfl rfl rfl)
 refine ie ?_
 refine zjb rfl hR ?_ ?_<;>clear hR<;>intro hR h11
 ·have h11p:=h11;try simp only [Bool.and_eq_true,Bool.or_eq_true,Bool.and_eq_false_iff,Bool.or_eq_false_iff,Bool.not_eq_true',Bool.not_eq_false',decide_eq_true_eq,decide_eq_false_iff_not] at h11p
  refine sr 2 rfl (zrg 2 0 [1] [] (bx b2 (A6 ScrC.zero ⟨none,0,0⟩ ⟨none,0,0⟩ ⟨none,0,0⟩ ⟨none,0,0⟩) 52::bx b1 (A6 ({s with onAlt:=false}) ⟨sMainq,sMain.length,sMaink⟩ ⟨sAltq,sAlt.length,sAltk⟩ ⟨none,0,0⟩ ⟨sTabsq,sTabs.length,sTabsk⟩) 52::(vo B7 78 r3 rs4)++([])) ?_)
  refine ie (sr 5 rfl (zrl 3 2 [1,1] [(80,ag (A6 ({s with onAlt:=false}) ⟨sMainq,sMain.length,sMaink⟩ ⟨sAltq,sAlt.length,sAltk⟩ ⟨none,0,0⟩ ⟨sTabsq,sTabs.length,sTabsk⟩)),(82,ag (X7 s.kept))] ?_))
  have hQ:=F5 hR;clear hR;obtain ⟨y6,hy6,hR⟩:=hQ
  refine zcm (B5b ({s with onAlt:=false}) sMain sAlt sTabs s.kept sMainq sMainrs sMaink sAltq sAltrs sAltk sTabsq sTabsk hrowssMainrs (by first|omega|(simp only [List.length_take,List.length_drop,List.length_append,List.length_cons,List.length_nil,List.length_set,List.length_map];omega)|decide) (by first|omega|(simp only [List.length_take,List.length_drop,List.length_append,List.length_cons,List.length_nil,List.length_set,List.length_map];omega)|decide) hrowssAltrs (by first|omega|(simp only [List.length_take,List.length_drop,List.length_append,List.length_cons,List.length_nil,List.length_set,List.length_map];omega)|decide) (by first|omega|(simp only [List.length_take,List.length_drop,List.length_append,List.length_cons,List.length_nil,List.length_set,List.length_map];omega)|decide) (by first|omega|(simp only [List.length_take,List.length_drop,List.length_append,List.length_cons,List.length_nil,List.length_set,List.length_map];omega)|decide) (by first|omega|(simp only [List.length_take,List.length_drop,List.length_append,List.length_cons,List.length_nil,List.length_set,List.length_map];omega)|decide) y6 hy6) (A4.pick [1,2,3,4,5] rfl) fun ⟨⟨⟨q12,rs13,k14⟩,hp17⟩,⟨⟨q19,rs20,k21⟩,hp24⟩,⟨⟨q26,k27⟩,hp28⟩⟩=>?_
  obtain ⟨hr15,hc16,hl18⟩:=hp17
  obtain ⟨hr22,hc23,hl25⟩:=hp24
  obtain ⟨hc29,hl30⟩:=hp28
  have:=hr15.1
  have:=hr22.1
  refine zrg 1 0 [0] [] (bx b2 (A6 y6.1 ⟨q12,y6.2.1.length,k14⟩ ⟨q19,y6.2.2.1.length,k21⟩ ⟨none,0,0⟩ ⟨q26,y6.2.2.2.length,k27⟩) 52::bx b1 (A6 ({s with onAlt:=false}) ⟨sMainq,sMain.length,sMaink⟩ ⟨sAltq,sAlt.length,sAltk⟩ ⟨none,0,0⟩ ⟨sTabsq,sTabs.length,sTabsk⟩) 52::(vo B7 78 r3 rs4)++([])) ?_
  subst hR
  refine ie (A7 ?_)
  exact zer hr hD (P8 rfl (Q5 (us:=A6 y6.1 ⟨q12,y6.2.1.length,k14⟩ ⟨q19,y6.2.2.1.length,k21⟩ ⟨none,0,0⟩ ⟨q26,y6.2.2.2.length,k27⟩) A7u rfl 0 rfl rfl)) (⟨(q12,rs13,k14),⟨hr15,(by first|omega|(simp only [List.length_take,List.length_drop,List.length_append,List.length_cons,List.length_nil,List.length_set,List.length_map];omega)|decide),(by first|omega|(simp only [List.length_take,List.length_drop,List.length_append,List.length_cons,List.length_nil,List.length_set,List.length_map];omega)|decide)⟩⟩,⟨(q19,rs20,k21),⟨hr22,(by first|omega|(simp only [List.length_take,List.length_drop,List.length_append,List.length_cons,List.length_nil,List.length_set,List.length_map];omega)|decide),(by first|omega|(simp only [List.length_take,List.length_drop,List.length_append,List.length_cons,List.length_nil,List.length_set,List.length_map];omega)|decide)⟩⟩,(zq q26 k27)) (List.nil_sublist _) (A4.con1 (B5 0 rfl) (A4.con1 (B5 1 rfl) (A4.con1 (B5 2 rfl) (A4.con1 (B5 3 rfl) (A4.con1 (B5 4 rfl) fn0)))))
 have h11p:=h11;try simp only [Bool.and_eq_true,Bool.or_eq_true,Bool.and_eq_false_iff,Bool.or_eq_false_iff,Bool.not_eq_true',Bool.not_eq_false',decide_eq_true_eq,decide_eq_false_iff_not] at h11p
 refine A5 (nx (sr 2 rfl (zrg 2 0 [1,0] [] (bx b2 (A6 s ⟨sMainq,sMain.length,sMaink⟩ ⟨sAltq,sAlt.length,sAltk⟩ ⟨none,0,0⟩ ⟨sTabsq,sTabs.length,sTabsk⟩) 52::bx b1 (A6 s ⟨sMainq,sMain.length,sMaink⟩ ⟨sAltq,sAlt.length,sAltk⟩ ⟨none,0,0⟩ ⟨sTabsq,sTabs.length,sTabsk⟩) 52::(vo B7 78 r3 rs4)++([])) ?_)))
 subst hR
 refine ie (A7 ?_)
 exact zer hr hD (P8 rfl (Q5 (us:=A6 s ⟨sMainq,sMain.length,sMaink⟩ ⟨sAltq,sAlt.length,sAltk⟩ ⟨none,0,0⟩ ⟨sTabsq,sTabs.length,sTabsk⟩) A7u rfl 0 rfl rfl)) (⟨(sMainq,sMainrs,sMaink),⟨hrowssMainrs,(by first|omega|(simp only [List.length_take,List.length_drop,List.length_append,List.length_cons,List.length_nil,List.length_set,List.length_map];omega)|decide),(by first|omega|(simp only [List.length_take,List.length_drop,List.length_append,List.length_cons,List.length_nil,List.length_set,List.length_map];omega)|decide)⟩⟩,⟨(sAltq,sAltrs,sAltk),⟨hrowssAltrs,(by first|omega|(simp only [List.length_take,List.length_drop,List.length_append,List.length_cons,List.length_nil,List.length_set,List.length_map];omega)|decide),(by first|omega|(simp only [List.length_take,List.length_drop,List.length_append,List.length_cons,List.length_nil,List.length_set,List.length_map];omega)|decide)⟩⟩,(zq sTabsq sTabsk)) (List.nil_sublist _) (A4.con1 (B5 1 rfl) (A4.con1 (B5 2 rfl) (A4.con1 (B5 3 rfl) (A4.con1 (B5 4 rfl) (A4.con1 (B5 5 rfl) fn0)))))
def A9k (s:ScrC) (sMain:List (Rwc Cel)) (sAlt:List (Rwc Cel)) (sTabs:List Bool):ScrC×List (Rwc Cel)×List (Rwc Cel)×List Bool :=
 (D5 (A9p ({s with last:=0}) sMain sAlt sTabs true) fun (y8:ScrC×List (Rwc Cel)×List (Rwc Cel)×List Bool)=>(y8.1,y8.2.1,y8.2.2.1,y8.2.2.2))
theorem C4k (s:ScrC) (sMain:List (Rwc Cel)) (sAlt:List (Rwc Cel)) (sTabs:List Bool) (sMainq:Option Addr) (sMainrs:List Rwq) (sMaink:Nat) (sAltq:Option Addr) (sAltrs:List Rwq) (sAltk:Nat) (sTabsq:Option Addr) (sTabsk:Nat) (hrowssMainrs:C8 sMainrs sMain) (hlsMain:sMain.length≤9223372036854775807) (hcsMain:sMain.length≤sMaink) (hrowssAltrs:C8 sAltrs sAlt) (hlsAlt:sAlt.length≤9223372036854775807) (hcsAlt:sAlt.length≤sAltk) (hlsTabs:sTabs.length≤9223372036854775807) (hcsTabs:sTabs.length≤sTabsk) (hsz:s.cols≤80∧s.rows≤40) (R:ScrC×List (Rwc Cel)×List (Rwc Cel)×List Bool) (hR:A9k s sMain sAlt sTabs=R):Con Tryz.prog 55 [ag (A6 s ⟨sMainq,sMain.length,sMaink⟩ ⟨sAltq,sAlt.length,sAltk⟩ ⟨none,0,0⟩ ⟨sTabsq,sTabs.length,sTabsk⟩),ag (F8 (⟨37,1049,1,Col.zero,[]⟩:Act))] [] [sl B7 sMainq sMainrs,C3 B4 sMainrs sMain,sl B7 sAltq sAltrs,C3 B4 sAltrs sAlt,sl D3 sTabsq sTabs] ({t:Option Addr×List Rwq×Nat // C8 t.2.1 R.2.1∧R.2.1.length≤t.2.2∧R.2.1.length≤9223372036854775807}×{t:Option Addr×List Rwq×Nat // C8 t.2.1 R.2.2.1∧R.2.2.1.length≤t.2.2∧R.2.2.1.length≤9223372036854775807}×{t:Option Addr×Nat // R.2.2.2.length≤t.2∧R.2.2.2.length≤9223372036854775807}) (fun x=>ag (A6 R.1 ⟨x.1.1.1,R.2.1.length,x.1.1.2.2⟩ ⟨x.2.1.1.1,R.2.2.1.length,x.2.1.1.2.2⟩ ⟨none,0,0⟩ ⟨x.2.2.1.1,R.2.2.2.length,x.2.2.1.2⟩)) (fun x=>[]) (fun x=>[sl B7 x.1.1.1 x.1.1.2.1,C3 B4 x.1.1.2.1 R.2.1,sl B7 x.2.1.1.1 x.2.1.1.2.1,C3 B4 x.2.1.1.2.1 R.2.2.1,sl D3 x.2.2.1.1 R.2.2.2]):=by
 refine zco Tryz.func55 [(0,ag (A6 s ⟨sMainq,sMain.length,sMaink⟩ ⟨sAltq,sAlt.length,sAltk⟩ ⟨none,0,0⟩ ⟨sTabsq,sTabs.length,sTabsk⟩)),(1,ag (F8 (⟨37,1049,1,Col.zero,[]⟩:Act)))] fun X hX hr hD=>?_
 replace hR:=(A9k.eq_1 ..).symm.trans hR
 have:=hrowssMainrs.1
 have:=hrowssAltrs.1
 refine sr 3 rfl (C8s 3 0 [] (fun b1 b2 b3=>[(2,pt b1 0),(3,pt b2 0),(4,pt b3 0)]) (fun b1 b2 b3=>[bx b3 (A6 ScrC.zero ⟨none,0,0⟩ ⟨none,0,0⟩ ⟨none,0,0⟩ ⟨none,0,0⟩) 52,bx b2 (F8 (⟨37,1049,1,Col.zero,[]⟩:Act)) 81,bx b1 (A6 s ⟨sMainq,sMain.length,sMaink⟩ ⟨sAltq,sAlt.length,sAltk⟩ ⟨none,0,0⟩ ⟨sTabsq,sTabs.length,sTabsk⟩) 52]) (fun b1 b2 b3=>?_))
 refine ie (sr 3 rfl (zrl 3 0 [2] [(5,iv s.last)] ?_))
 refine ie (A1 (sr 3 rfl (zrl 3 0 [1] [(14,bv false)] ?_)))
 refine ie (K6 rfl (A5 (nx (A1 (sr 3 rfl (zrl 3 0 [1] [(31,bv false)] ?_))))))
 refine ie (K6 rfl (A5 (nx (sr 2 rfl (zrg 2 0 [2] [] [bx b3 (A6 ScrC.zero ⟨none,0,0⟩ ⟨none,0,0⟩ ⟨none,0,0⟩ ⟨none,0,0⟩) 52,bx b2 (F8 (⟨37,1049,1,Col.zero,[]⟩:Act)) 81,bx b1 (A6 ({s with last:=0}) ⟨sMainq,sMain.length,sMaink⟩ ⟨sAltq,sAlt.length,sAltk⟩ ⟨none,0,0⟩ ⟨sTabsq,sTabs.length,sTabsk⟩) 52] ?_)))))
 refine ie (A1 (sr 3 rfl (zrl 1 2 [1] [(56,ag (F8 (⟨37,1049,1,Col.zero,[]⟩:Act)))] ?_)))
 refine zca (B8j true (by decide +kernel)) fn0 ?_
 refine ip' 1 0 [(58,bv false)] ?_
 refine ie (K6 rfl (A5 (nx (A1 (sr 2 rfl (zrl 2 0 [1] [(62,iv 37)] ?_))))))
 refine ie (B0 (A1 (sr 2 rfl (ip' 2 0 [(63,bv false)] ?_))))
 refine ie (K6 rfl (sr 2 rfl (ip' 2 0 [(63,bv false)] ?_)))
 refine ie (K6 rfl (sr 2 rfl (ip' 2 0 [(63,bv false)] ?_)))
 refine ie (K6 rfl (sr 2 rfl (ip' 2 0 [(63,bv false)] ?_)))
 refine ie (K6 rfl (sr 2 rfl (ip' 2 0 [(63,bv false)] ?_)))
 refine ie (K6 rfl (sr 2 rfl (ip' 2 0 [(63,bv false)] ?_)))
 refine ie (K6 rfl (sr 2 rfl (ip' 2 0 [(63,bv false)] ?_)))
 refine ie (K6 rfl (sr 2 rfl (ip' 2 0 [(63,bv false)] ?_)))
 refine ie (K6 rfl (sr 2 rfl (ip' 2 0 [(63,bv false)] ?_)))
 refine ie (K6 rfl (A3 2 rfl (ip' 2 0 [(63,bv false)] ?_)))
 refine A2 (nx (K6 rfl (A1 (sr 2 rfl (ip' 2 0 [(77,bv false)] ?_)))))
 refine ie (K6 rfl (sr 2 rfl (ip' 2 0 [(77,bv false)] ?_)))
 refine ie (K6 rfl (sr 2 rfl (ip' 2 0 [(77,bv false)] ?_)))
 refine ie (K6 rfl (sr 2 rfl (ip' 2 0 [(77,bv false)] ?_)))
 refine ie (K6 rfl (sr 2 rfl (ip' 2 0 [(77,bv false)] ?_)))
 refine ie (K6 rfl (sr 2 rfl (ip' 2 0 [(77,bv false)] ?_)))
 refine ie (K6 rfl (sr 2 rfl (ip' 2 0 [(77,bv false)] ?_)))
 refine ie (K6 rfl (sr 2 rfl (ip' 2 0 [(77,bv false)] ?_)))
 refine ie (K6 rfl (A3 2 rfl (ip' 2 0 [(77,bv false)] ?_)))
 refine A2 (nx (K6 rfl (sr 2 rfl (ip' 2 0 [(90,bv true)] ?_))))
 refine ie (H7 rfl (sr 8 rfl (zrl 6 2 [2,1,1] [(92,ag (A6 ({s with last:=0}) ⟨sMainq,sMain.length,sMaink⟩ ⟨sAltq,sAlt.length,sAltk⟩ ⟨none,0,0⟩ ⟨sTabsq,sTabs.length,sTabsk⟩)),(94,iv 1049),(97,bv true)] ?_)))
 have hQ:=F5 hR;clear hR;obtain ⟨y8,hy8,hR⟩:=hQ
 refine zcm (C3a ({s with last:=0}) sMain sAlt sTabs true sMainq sMainrs sMaink sAltq sAltrs sAltk sTabsq sTabsk hrowssMainrs (by first|omega|(simp only [List.length_take,List.length_drop,List.length_append,List.length_cons,List.length_nil,List.length_set,List.length_map];omega)|decide) (by first|omega|(simp only [List.length_take,List.length_drop,List.length_append,List.length_cons,List.length_nil,List.length_set,List.length_map];omega)|decide) hrowssAltrs (by first|omega|(simp only [List.length_take,List.length_drop,List.length_append,List.length_cons,List.length_nil,List.length_set,List.length_map];omega)|decide) (by first|omega|(simp only [List.length_take,List.length_drop,List.length_append,List.length_cons,List.length_nil,List.length_set,List.length_map];omega)|decide) (by first|omega|(simp only [List.length_take,List.length_drop,List.length_append,List.length_cons,List.length_nil,List.length_set,List.length_map];omega)|decide) (by first|omega|(simp only [List.length_take,List.length_drop,List.length_append,List.length_cons,List.length_nil,List.length_set,List.length_map];omega)|decide) (by first|omega|(dsimp only;omega)) y8 hy8) A4.refl fun ⟨⟨⟨q4,rs5,k6⟩,hp9⟩,⟨⟨q11,rs12,k13⟩,hp16⟩,⟨⟨q18,k19⟩,hp20⟩⟩=>?_
 obtain ⟨hr7,hc8,hl10⟩:=hp9
 obtain ⟨hr14,hc15,hl17⟩:=hp16
 obtain ⟨hc21,hl22⟩:=hp20
 have:=hr7.1
 have:=hr14.1
 refine zrg 1 0 [0] [] [bx b3 (A6 y8.1 ⟨q4,y8.2.1.length,k6⟩ ⟨q11,y8.2.2.1.length,k13⟩ ⟨none,0,0⟩ ⟨q18,y8.2.2.2.length,k19⟩) 52,bx b2 (F8 (⟨37,1049,1,Col.zero,[]⟩:Act)) 81,bx b1 (A6 ({s with last:=0}) ⟨sMainq,sMain.length,sMaink⟩ ⟨sAltq,sAlt.length,sAltk⟩ ⟨none,0,0⟩ ⟨sTabsq,sTabs.length,sTabsk⟩) 52] ?_
 subst hR
 refine ie (A7 ?_)
 exact zer hr hD (P8 rfl (Q5 (us:=A6 y8.1 ⟨q4,y8.2.1.length,k6⟩ ⟨q11,y8.2.2.1.length,k13⟩ ⟨none,0,0⟩ ⟨q18,y8.2.2.2.length,k19⟩) A7u rfl 0 rfl rfl)) (⟨(q4,rs5,k6),⟨hr7,(by first|omega|(simp only [List.length_take,List.length_drop,List.length_append,List.length_cons,List.length_nil,List.length_set,List.length_map];omega)|decide),(by first|omega|(simp only [List.length_take,List.length_drop,List.length_append,List.length_cons,List.length_nil,List.length_set,List.length_map];omega)|decide)⟩⟩,⟨(q11,rs12,k13),⟨hr14,(by first|omega|(simp only [List.length_take,List.length_drop,List.length_append,List.length_cons,List.length_nil,List.length_set,List.length_map];omega)|decide),(by first|omega|(simp only [List.length_take,List.length_drop,List.length_append,List.length_cons,List.length_nil,List.length_set,List.length_map];omega)|decide)⟩⟩,(zq q18 k19)) (mk [false,false,false] rfl) (A4.con1 (B5 0 rfl) (A4.con1 (B5 1 rfl) (A4.con1 (B5 2 rfl) (A4.con1 (B5 3 rfl) (A4.con1 (B5 4 rfl) fn0)))))
def Q6 (f:FrmC) (y1:ScrC×List (Rwc Cel)×List (Rwc Cel)×List Bool):List (List Cel)→List (Rwc Cel)→Nat→(ScrC×List (Rwc Cel)×List (Rwc Cel)×List Bool)
 | [],l,i=>({y1.1 with cursor:={Cur.zero with row:=f.cursor.row,col:=f.cursor.col},modes:={y1.1.modes with visible:=f.visible},shape:=f.shape,title:=f.title},y1.2.1,l,y1.2.2.2)
 | hd_l0::tl_l0,l,i=>Q6 f y1 tl_l0 (l++([⟨hd_l0,false⟩]:List (Rwc Cel))) (i+1)
def A4c (f:FrmC) (fR:List (List Cel)):ScrC×List (Rwc Cel)×List (Rwc Cel)×List Bool :=
 (D5 (A1z f.cols (fR.length:Int)) fun (y4:ScrC×List (Rwc Cel)×List (Rwc Cel)×List Bool)=>(D5 (A9k y4.1 y4.2.1 y4.2.2.1 y4.2.2.2) fun (y1:ScrC×List (Rwc Cel)×List (Rwc Cel)×List Bool)=>Q6 f y1 fR ([]:List (Rwc Cel)) 0))
theorem B7m (f:FrmC) (fR:List (List Cel)) (fQ:Option Addr) (fZ:List Slc) (fK:Nat) (hrowsfRowsrs:D0 fZ fR) (hlfRows:fR.length≤9223372036854775807) (hcfRows:fR.length≤fK) (hfr:2≤f.cols∧f.cols≤80∧1≤fR.length∧fR.length≤40) (R:ScrC×List (Rwc Cel)×List (Rwc Cel)×List Bool) (hR:A4c f fR=R):Con Tryz.prog 24 [ag (A0 f ⟨fQ,fR.length,fK⟩)] [] [sl C7 fQ fZ,H0 B4 fZ fR] ({t:Option Addr×List Rwq×Nat // C8 t.2.1 R.2.1∧R.2.1.length≤t.2.2∧R.2.1.length≤9223372036854775807}×{t:VR×List Rwq // VOk 2 R.2.2.1.length t.1∧C8 t.2 R.2.2.1}×{t:Option Addr×Nat // R.2.2.2.length≤t.2∧R.2.2.2.length≤9223372036854775807}) (fun x=>ag (A6 R.1 ⟨x.1.1.1,R.2.1.length,x.1.1.2.2⟩ ⟨va x.2.1.1.1.q,R.2.2.1.length,x.2.1.1.1.k⟩ ⟨none,0,0⟩ ⟨x.2.2.1.1,R.2.2.2.length,x.2.2.1.2⟩)) (fun x=>((vo B7 78 x.2.1.1.1 x.2.1.1.2)++([]))) (fun x=>[sl B7 x.1.1.1 x.1.1.2.1,C3 B4 x.1.1.2.1 R.2.1,C3 B4 x.2.1.1.2 R.2.2.1,sl D3 x.2.2.1.1 R.2.2.2]):=by
 refine zco Tryz.func24 [(0,ag (A0 f ⟨fQ,fR.length,fK⟩))] fun X hX hr hD=>?_
 replace hR:=(A4c.eq_1 ..).symm.trans hR
 have:=hrowsfRowsrs.1
 refine sr 2 rfl (A9f 2 0 [] (fun b1 b2=>[(1,pt b1 0),(2,pt b2 0)]) (fun b1 b2=>[bx b2 (A6 ScrC.zero ⟨none,0,0⟩ ⟨none,0,0⟩ ⟨none,0,0⟩ ⟨none,0,0⟩) 52,bx b1 (A0 f ⟨fQ,fR.length,fK⟩) 26]) (fun b1 b2=>?_))
 refine ie (sr 10 rfl (zrl 5 5 [1,1] [(7,iv f.cols),(10,iv (fR.length:Int))] ?_))
 have hQ:=F5 hR;clear hR;obtain ⟨y4,hy4,hR⟩:=hQ
 refine it rfl (H2 (L2:=[bx b2 (A6 ScrC.zero ⟨none,0,0⟩ ⟨none,0,0⟩ ⟨none,0,0⟩ ⟨none,0,0⟩) 52,bx b1 (A0 f ⟨fQ,fR.length,fK⟩) 26]) (C2g f.cols (fR.length:Int) (by omega) y4 hy4) rfl rfl rfl rfl rfl fn0 (List.Perm.refl _) (fun ⟨⟨⟨r3,rs4⟩,hp7⟩,⟨⟨r8,rs9⟩,hp12⟩,⟨r13,hk14⟩⟩=>(bx b2 (A6 ScrC.zero ⟨none,0,0⟩ ⟨none,0,0⟩ ⟨none,0,0⟩ ⟨none,0,0⟩) 52::bx b1 (A0 f ⟨fQ,fR.length,fK⟩) 26::(vo B7 78 r3 rs4)++((vo B7 78 r8 rs9)++((vo D3 4 r13 y4.2.2.2)++([]))))) (fun ⟨⟨⟨r3,rs4⟩,hp7⟩,⟨⟨r8,rs9⟩,hp12⟩,⟨r13,hk14⟩⟩=>H5 [vo B7 78 r3 rs4,vo B7 78 r8 rs9,vo D3 4 r13 y4.2.2.2,[bx b2 (A6 ScrC.zero ⟨none,0,0⟩ ⟨none,0,0⟩ ⟨none,0,0⟩ ⟨none,0,0⟩) 52],[bx b1 (A0 f ⟨fQ,fR.length,fK⟩) 26]] [3,4,0,1,2] 5 rfl (by decide) (by first|rfl|simp only [List.flatten_cons,List.flatten_nil,List.append_nil,List.cons_append,List.nil_append,List.append_assoc]) [[bx b2 (A6 ScrC.zero ⟨none,0,0⟩ ⟨none,0,0⟩ ⟨none,0,0⟩ ⟨none,0,0⟩) 52],[bx b1 (A0 f ⟨fQ,fR.length,fK⟩) 26],vo B7 78 r3 rs4,vo B7 78 r8 rs9,vo D3 4 r13 y4.2.2.2] rfl (by first|rfl|simp only [List.flatten_cons,List.flatten_nil,List.append_nil,List.cons_append,List.nil_append,List.append_assoc]))) fun ⟨⟨⟨r3,rs4⟩,hp7⟩,⟨⟨r8,rs9⟩,hp12⟩,⟨r13,hk14⟩⟩=>?_
 try dsimp only at hp7
 obtain ⟨hk5,hw6⟩:=hp7
 try dsimp only at hp12
 obtain ⟨hk10,hw11⟩:=hp12
 have:=VOk.le hk5
 have:=VOk.le hk10
 have:=VOk.le hk14
 have:=VOk.cap hk5
 have:=VOk.cap hk10
 have:=VOk.cap hk14
 have:=hw6.1
 have:=hw11.1
 have hz_rref20New:=C0l f.cols (fR.length:Int);rw [hy4] at hz_rref20New
 refine zrl 1 3 [] [(12,ag (F8 ({Act.zero with kind:=37,n:=1049,m:=1})))] ?_
 have:=VOk.cap hk5
 have:=VOk.le hk5
 refine O7 [bx b2 (A6 ScrC.zero ⟨none,0,0⟩ ⟨none,0,0⟩ ⟨none,0,0⟩ ⟨none,0,0⟩) 52,bx b1 (A0 f ⟨fQ,fR.length,fK⟩) 26] ((vo B7 78 r8 rs9)++((vo D3 4 r13 y4.2.2.2)++([]))) (T:=78) (c:=B7) (r:=r3) (xs:=rs4) (VOk.cast hk5 (by rw [hw6.1])) (by first|rfl|simp only [List.cons_append,List.append_assoc,List.nil_append,List.append_nil]) ?_
 have:=VOk.cap hk10
 have:=VOk.le hk10
 refine O7 [bx b2 (A6 ScrC.zero ⟨none,0,0⟩ ⟨none,0,0⟩ ⟨none,0,0⟩ ⟨none,0,0⟩) 52,bx b1 (A0 f ⟨fQ,fR.length,fK⟩) 26] ((vo D3 4 r13 y4.2.2.2)++([])) (T:=78) (c:=B7) (r:=r8) (xs:=rs9) (VOk.cast hk10 (by rw [hw11.1])) (by first|rfl|simp only [List.cons_append,List.append_assoc,List.nil_append,List.append_nil]) ?_
 have:=VOk.cap hk14
 have:=VOk.le hk14
 refine O7 [bx b2 (A6 ScrC.zero ⟨none,0,0⟩ ⟨none,0,0⟩ ⟨none,0,0⟩ ⟨none,0,0⟩) 52,bx b1 (A0 f ⟨fQ,fR.length,fK⟩) 26] [] (T:=4) (c:=D3) (r:=r13) (xs:=y4.2.2.2) hk14 (by first|rfl|simp only [List.cons_append,List.append_assoc,List.nil_append,List.append_nil]) ?_
 have hQ:=F5 hR;clear hR;obtain ⟨y1,hy1,hR⟩:=hQ
 refine zcm (C4k y4.1 y4.2.1 y4.2.2.1 y4.2.2.2 (va r3.q) rs4 r3.k (va r8.q) rs9 r8.k (va r13.q) r13.k hw6 (by first|omega|(simp only [List.length_take,List.length_drop,List.length_append,List.length_cons,List.length_nil,List.length_set,List.length_map];omega)|decide) (by first|omega|(simp only [List.length_take,List.length_drop,List.length_append,List.length_cons,List.length_nil,List.length_set,List.length_map];omega)|decide) hw11 (by first|omega|(simp only [List.length_take,List.length_drop,List.length_append,List.length_cons,List.length_nil,List.length_set,List.length_map];omega)|decide) (by first|omega|(simp only [List.length_take,List.length_drop,List.length_append,List.length_cons,List.length_nil,List.length_set,List.length_map];omega)|decide) (by first|omega|(simp only [List.length_take,List.length_drop,List.length_append,List.length_cons,List.length_nil,List.length_set,List.length_map];omega)|decide) (by first|omega|(simp only [List.length_take,List.length_drop,List.length_append,List.length_cons,List.length_nil,List.length_set,List.length_map];omega)|decide) (by first|omega|(dsimp only;omega)) y1 hy1) (A4.pick [2,3,1,4,0] rfl) fun ⟨⟨⟨q15,rs16,k17⟩,hp20⟩,⟨⟨q22,rs23,k24⟩,hp27⟩,⟨⟨q29,k30⟩,hp31⟩⟩=>?_
 obtain ⟨hr18,hc19,hl21⟩:=hp20
 obtain ⟨hr25,hc26,hl28⟩:=hp27
 obtain ⟨hc32,hl33⟩:=hp31
 have:=hr18.1
 have:=hr25.1
 refine K0 2 0 [0] (fun b34=>[(3,pt b34 0)]) (fun b34=>[bx b34 (A6 y1.1 ⟨q15,y1.2.1.length,k17⟩ ⟨q22,y1.2.2.1.length,k24⟩ ⟨none,0,0⟩ ⟨q29,y1.2.2.2.length,k30⟩) 52,bx b2 (A6 ScrC.zero ⟨none,0,0⟩ ⟨none,0,0⟩ ⟨none,0,0⟩ ⟨none,0,0⟩) 52,bx b1 (A0 f ⟨fQ,fR.length,fK⟩) 26]) (fun b34=>?_)
 refine ie (sr 1 rfl (ip' 1 0 [(4,.slice none 0 0)] ?_))
 refine ie (A1 (sr 1 rfl (ip' 1 0 [(5,iv 0)] ?_)))
 refine ie (B0 (Z3 (H5 [vo B7 78 VR.nil ([]:List Rwq),[bx b34 (A6 y1.1 ⟨q15,y1.2.1.length,k17⟩ ⟨q22,y1.2.2.1.length,k24⟩ ⟨none,0,0⟩ ⟨q29,y1.2.2.2.length,k30⟩) 52],[bx b2 (A6 ScrC.zero ⟨none,0,0⟩ ⟨none,0,0⟩ ⟨none,0,0⟩ ⟨none,0,0⟩) 52],[bx b1 (A0 f ⟨fQ,fR.length,fK⟩) 26]] [1,2,3,0] 4 rfl (by decide) rfl [[bx b34 (A6 y1.1 ⟨q15,y1.2.1.length,k17⟩ ⟨q22,y1.2.2.1.length,k24⟩ ⟨none,0,0⟩ ⟨q29,y1.2.2.2.length,k30⟩) 52],[bx b2 (A6 ScrC.zero ⟨none,0,0⟩ ⟨none,0,0⟩ ⟨none,0,0⟩ ⟨none,0,0⟩) 52],[bx b1 (A0 f ⟨fQ,fR.length,fK⟩) 26],vo B7 78 VR.nil ([]:List Rwq)] rfl (by first|rfl|simp)) ?_))
 refine B0q (fun (l:List (Rwc Cel)) (lr:VR) (lrs:List Rwq) (i:Nat)=>(i≤fR.length∧Q6 f y1 (fR.drop i) l i=R∧VOk 2 l.length lr∧C8 lrs l∧l.length=i,[(1,pt b1 0),(2,pt b2 0),(3,pt b34 0),(4,.slice (va lr.q) l.length lr.k),(5,iv (i:Int))],(bx b34 (A6 y1.1 ⟨q15,y1.2.1.length,k17⟩ ⟨q22,y1.2.2.1.length,k24⟩ ⟨none,0,0⟩ ⟨q29,y1.2.2.2.length,k30⟩) 52::bx b2 (A6 ScrC.zero ⟨none,0,0⟩ ⟨none,0,0⟩ ⟨none,0,0⟩ ⟨none,0,0⟩) 52::bx b1 (A0 f ⟨fQ,fR.length,fK⟩) 26::(vo B7 78 lr lrs)++([])),[sl B7 q15 rs16,C3 B4 rs16 y1.2.1,sl B7 q22 rs23,C3 B4 rs23 y1.2.2.1,sl D3 q29 y1.2.2.2,sl D3 (va r13.q) y4.2.2.2,sl B7 (va r8.q) rs9,sl B7 (va r3.q) rs4,C3 B4 rs4 y4.2.1,C3 B4 rs9 y4.2.2.1,sl C7 fQ fZ,H0 B4 fZ fR,C3 B4 lrs l],fR.length - i)) ([]:List (Rwc Cel)) VR.nil ([]:List Rwq) 0 ⟨(by omega),hR,VOk.nil,C8.none,(by rfl)⟩ (mc [[bx b34 (A6 y1.1 ⟨q15,y1.2.1.length,k17⟩ ⟨q22,y1.2.2.1.length,k24⟩ ⟨none,0,0⟩ ⟨q29,y1.2.2.2.length,k30⟩) 52],[bx b2 (A6 ScrC.zero ⟨none,0,0⟩ ⟨none,0,0⟩ ⟨none,0,0⟩ ⟨none,0,0⟩) 52],[bx b1 (A0 f ⟨fQ,fR.length,fK⟩) 26],vo B7 78 VR.nil ([]:List Rwq)] [true,true,true,true] rfl (by first|rfl|(simp only [List.length_set]<;>rfl))) (A4.con1 (B5 0 rfl) (A4.con1 (B5 1 rfl) (A4.con1 (B5 2 rfl) (A4.con1 (B5 3 rfl) (A4.con1 (B5 4 rfl) (A4.con1 (B5 5 rfl) (A4.con1 (B5 6 rfl) (A4.con1 (B5 7 rfl) (A4.con1 (B5 8 rfl) (A4.con1 (B5 9 rfl) (A4.con1 (B5 10 rfl) (A4.con1 (B5 11 rfl) (A4.con1 Y3 fn0))))))))))))) ?_
 rintro l lr lrs i ⟨hm35,hR,hoklr,hrowslrs,hol⟩
 have:=VOk.le hoklr
 have:=hrowslrs.1
 refine A1 (sr 5 rfl (zrl 5 0 [2] [(18,bv (decide ((i:Int)<(fR.length:Int))))] ?_))
 refine ie (S5 rfl (fun h36=>?_) (fun h36=>?_))
 ·have h36p:(i:Int)<(fR.length:Int):=by simpa using h36
  rw [V2 [] (show i<fR.length by omega)] at hR;replace hR:=(Q6.eq_2 ..).symm.trans hR
  refine A5 (nx (A1 (B0 (A3 10 rfl (zrl 4 6 [2] [(21,.slice (va lr.q) l.length lr.k),(23,.slice fQ fR.length fK),(24,iv (i:Int))] ?_)))))
  refine K3 10 rfl (by have:=hrowsfRowsrs.1;omega) fun a37 hq38=>?_
  refine H8 (P3 (k:=i) (d:=(⟨none,0,0⟩:Slc)) hrowsfRowsrs 11 rfl (by have:=hrowsfRowsrs.1;omega)) ?_
  have:=P1 hrowsfRowsrs (k:=i) (d:=(⟨none,0,0⟩:Slc)) (by have:=hrowsfRowsrs.1;omega)
  refine ix rfl (F0 A0d rfl rfl hq38 rfl i rfl (by omega)) ?_
  refine ix rfl (H1 (C6 (v:=.slice ((fZ.getD i (⟨none,0,0⟩:Slc)).q) ((fZ.getD i (⟨none,0,0⟩:Slc)).n) ((fZ.getD i (⟨none,0,0⟩:Slc)).k)) (us:=[.slice ((fZ.getD i (⟨none,0,0⟩:Slc)).q) ((fZ.getD i (⟨none,0,0⟩:Slc)).n) ((fZ.getD i (⟨none,0,0⟩:Slc)).k)]) A5e rfl rfl (G2 (c:=C7) (sz:=1) hq38 (fun _=>rfl) 11 rfl (gd (⟨none,0,0⟩:Slc) (by have:=hrowsfRowsrs.1;omega))) rfl) (P2 hrowsfRowsrs (by have:=hrowsfRowsrs.1;omega))) ?_
  refine zrl 1 3 [] [(27,ag [.slice ((fZ.getD i (⟨none,0,0⟩:Slc)).q) ((fR.getD i []).length) ((fZ.getD i (⟨none,0,0⟩:Slc)).k),bv false])] ?_
  refine it rfl (E3 (c:=B7) (xs:=([⟨⟨(fZ.getD i (⟨none,0,0⟩:Slc)).q,(fR.getD i []).length,(fZ.getD i (⟨none,0,0⟩:Slc)).k⟩,false⟩]:List Rwq)) B0h rfl rfl rfl (by kernel_rfl)) fun b39=>?_
  have hrows40:C8 ([⟨⟨(fZ.getD i (⟨none,0,0⟩:Slc)).q,(fR.getD i []).length,(fZ.getD i (⟨none,0,0⟩:Slc)).k⟩,false⟩]:List Rwq) ([⟨(fR.getD i []),false⟩]:List (Rwc Cel)):=(C8.cons ⟨rfl,(by first|omega|(simp only [List.length_take,List.length_drop,List.length_append,List.length_cons,List.length_nil,List.length_set,List.length_map];omega)|decide),(by first|omega|(simp only [List.length_take,List.length_drop,List.length_append,List.length_cons,List.length_nil,List.length_set,List.length_map];omega)|decide)⟩ rfl C8.none)
  refine H8 (q:=C3 B4 ([⟨⟨(fZ.getD i (⟨none,0,0⟩:Slc)).q,(fR.getD i []).length,(fZ.getD i (⟨none,0,0⟩:Slc)).k⟩,false⟩]:List Rwq) ([⟨(fR.getD i []),false⟩]:List (Rwc Cel))) (C4z (B5 1 rfl) Y3) ?_
  have:([⟨⟨(fZ.getD i (⟨none,0,0⟩:Slc)).q,(fR.getD i []).length,(fZ.getD i (⟨none,0,0⟩:Slc)).k⟩,false⟩]:List Rwq).length=1:=rfl
  have hw43:C8 (lrs++([⟨⟨(fZ.getD i (⟨none,0,0⟩:Slc)).q,(fR.getD i []).length,(fZ.getD i (⟨none,0,0⟩:Slc)).k⟩,false⟩]:List Rwq)) (l++([⟨(fR.getD i []),false⟩]:List (Rwc Cel))):=C8.append hrowslrs hrows40
  refine it rfl (B3a (r:=lr) (rs:=lrs) (xss:=l) (pre:=[bx b34 (A6 y1.1 ⟨q15,y1.2.1.length,k17⟩ ⟨q22,y1.2.2.1.length,k24⟩ ⟨none,0,0⟩ ⟨q29,y1.2.2.2.length,k30⟩) 52,bx b2 (A6 ScrC.zero ⟨none,0,0⟩ ⟨none,0,0⟩ ⟨none,0,0⟩ ⟨none,0,0⟩) 52,bx b1 (A0 f ⟨fQ,fR.length,fK⟩) 26]) (post:=[]) C5i rfl rfl rfl rfl rfl rfl rfl rfl rfl (B5 1 rfl) (B5 15 rfl) (B5 0 rfl) hrowslrs hrows40 hoklr (by first|omega|(simp only [List.length_cons,List.length_nil,List.length_append,List.length_take,List.length_drop];omega)) (by first|omega|(simp only [List.length_cons,List.length_nil,List.length_append,List.length_take,List.length_drop];omega))) fun ⟨r41,hr42⟩=>?_
  have:=VOk.le hr42
  have:=VOk.cap hr42
  have:([⟨(fR.getD i []),false⟩]:List (Rwc Cel)).length=1:=rfl
  have:(l++([⟨(fR.getD i []),false⟩]:List (Rwc Cel))).length=l.length+1:=List.length_append
  refine ip' 1 0 [(4,.slice (va r41.q) ((l++([⟨(fR.getD i []),false⟩]:List (Rwc Cel))).length) r41.k)] ?_
  refine A2 (nx (A3 3 rfl (ip' 1 2 [(19,iv (i:Int))] ?_)))
  refine ix rfl (B3 rfl rfl rfl rfl (by omega)) ?_
  refine ip' 1 0 [(5,iv ((i:Int)+1))] ?_
  refine A2 ?_
  exact A9x (z1:=l) (z2:=lr) (z3:=lrs) (z4:=i) (l++([⟨(fR.getD i []),false⟩]:List (Rwc Cel))) r41 (lrs++([⟨⟨(fZ.getD i (⟨none,0,0⟩:Slc)).q,(fR.getD i []).length,(fZ.getD i (⟨none,0,0⟩:Slc)).k⟩,false⟩]:List Rwq)) (i+1) ⟨(by omega),hR,hr42,hw43,(by (simp only [List.length_append,List.length_cons,List.length_nil];omega))⟩ (by (try dsimp only);omega) (mc [[bx b34 (A6 y1.1 ⟨q15,y1.2.1.length,k17⟩ ⟨q22,y1.2.2.1.length,k24⟩ ⟨none,0,0⟩ ⟨q29,y1.2.2.2.length,k30⟩) 52],[bx b2 (A6 ScrC.zero ⟨none,0,0⟩ ⟨none,0,0⟩ ⟨none,0,0⟩ ⟨none,0,0⟩) 52],[bx b1 (A0 f ⟨fQ,fR.length,fK⟩) 26],vo B7 78 r41 (lrs++([⟨⟨(fZ.getD i (⟨none,0,0⟩:Slc)).q,(fR.getD i []).length,(fZ.getD i (⟨none,0,0⟩:Slc)).k⟩,false⟩]:List Rwq))] [true,true,true,true] rfl (by first|rfl|(simp only [List.length_set]<;>rfl))) (A4.pick [4,5,6,7,8,9,10,11,12,13,14,15,0] rfl)
 have h36p:¬ ((i:Int)<(fR.length:Int)):=by simpa using h36
 rw [U7 h36p] at hR;replace hR:=(Q6.eq_1 ..).symm.trans hR
 refine F7 (nx (sr 3 rfl (zrg 3 0 [0] [] (bx b34 (A6 y1.1 ⟨q15,y1.2.1.length,k17⟩ ⟨va lr.q,l.length,lr.k⟩ ⟨none,0,0⟩ ⟨q29,y1.2.2.2.length,k30⟩) 52::bx b2 (A6 ScrC.zero ⟨none,0,0⟩ ⟨none,0,0⟩ ⟨none,0,0⟩ ⟨none,0,0⟩) 52::bx b1 (A0 f ⟨fQ,fR.length,fK⟩) 26::(vo B7 78 lr lrs)++([])) ?_)))
 refine ie (sr 9 rfl (zrg 9 0 [2,2,0] [] (bx b34 (A6 ({y1.1 with cursor:={Cur.zero with row:=f.cursor.row,col:=f.cursor.col}}) ⟨q15,y1.2.1.length,k17⟩ ⟨va lr.q,l.length,lr.k⟩ ⟨none,0,0⟩ ⟨q29,y1.2.2.2.length,k30⟩) 52::bx b2 (A6 ScrC.zero ⟨none,0,0⟩ ⟨none,0,0⟩ ⟨none,0,0⟩ ⟨none,0,0⟩) 52::bx b1 (A0 f ⟨fQ,fR.length,fK⟩) 26::(vo B7 78 lr lrs)++([])) ?_))
 refine ie (sr 5 rfl (zrg 5 0 [2,0] [] (bx b34 (A6 ({y1.1 with cursor:={Cur.zero with row:=f.cursor.row,col:=f.cursor.col},modes:={y1.1.modes with visible:=f.visible}}) ⟨q15,y1.2.1.length,k17⟩ ⟨va lr.q,l.length,lr.k⟩ ⟨none,0,0⟩ ⟨q29,y1.2.2.2.length,k30⟩) 52::bx b2 (A6 ScrC.zero ⟨none,0,0⟩ ⟨none,0,0⟩ ⟨none,0,0⟩ ⟨none,0,0⟩) 52::bx b1 (A0 f ⟨fQ,fR.length,fK⟩) 26::(vo B7 78 lr lrs)++([])) ?_))
 refine ie (sr 4 rfl (zrg 4 0 [2,0] [] (bx b34 (A6 ({y1.1 with cursor:={Cur.zero with row:=f.cursor.row,col:=f.cursor.col},modes:={y1.1.modes with visible:=f.visible},shape:=f.shape}) ⟨q15,y1.2.1.length,k17⟩ ⟨va lr.q,l.length,lr.k⟩ ⟨none,0,0⟩ ⟨q29,y1.2.2.2.length,k30⟩) 52::bx b2 (A6 ScrC.zero ⟨none,0,0⟩ ⟨none,0,0⟩ ⟨none,0,0⟩ ⟨none,0,0⟩) 52::bx b1 (A0 f ⟨fQ,fR.length,fK⟩) 26::(vo B7 78 lr lrs)++([])) ?_))
 refine ie (sr 4 rfl (zrg 4 0 [2,0] [] (bx b34 (A6 ({y1.1 with cursor:={Cur.zero with row:=f.cursor.row,col:=f.cursor.col},modes:={y1.1.modes with visible:=f.visible},shape:=f.shape,title:=f.title}) ⟨q15,y1.2.1.length,k17⟩ ⟨va lr.q,l.length,lr.k⟩ ⟨none,0,0⟩ ⟨q29,y1.2.2.2.length,k30⟩) 52::bx b2 (A6 ScrC.zero ⟨none,0,0⟩ ⟨none,0,0⟩ ⟨none,0,0⟩ ⟨none,0,0⟩) 52::bx b1 (A0 f ⟨fQ,fR.length,fK⟩) 26::(vo B7 78 lr lrs)++([])) ?_))
 refine ie (sr 2 rfl (zrg 2 0 [0,1] [] (bx b34 (A6 ({y1.1 with cursor:={Cur.zero with row:=f.cursor.row,col:=f.cursor.col},modes:={y1.1.modes with visible:=f.visible},shape:=f.shape,title:=f.title}) ⟨q15,y1.2.1.length,k17⟩ ⟨va lr.q,l.length,lr.k⟩ ⟨none,0,0⟩ ⟨q29,y1.2.2.2.length,k30⟩) 52::bx b2 (A6 ({y1.1 with cursor:={Cur.zero with row:=f.cursor.row,col:=f.cursor.col},modes:={y1.1.modes with visible:=f.visible},shape:=f.shape,title:=f.title}) ⟨q15,y1.2.1.length,k17⟩ ⟨va lr.q,l.length,lr.k⟩ ⟨none,0,0⟩ ⟨q29,y1.2.2.2.length,k30⟩) 52::bx b1 (A0 f ⟨fQ,fR.length,fK⟩) 26::(vo B7 78 lr lrs)++([])) ?_))
 subst hR
 refine ie (A7 ?_)
 exact zer hr hD (P8 rfl (Q5 (us:=A6 ({y1.1 with cursor:={Cur.zero with row:=f.cursor.row,col:=f.cursor.col},modes:={y1.1.modes with visible:=f.visible},shape:=f.shape,title:=f.title}) ⟨q15,y1.2.1.length,k17⟩ ⟨va lr.q,l.length,lr.k⟩ ⟨none,0,0⟩ ⟨q29,y1.2.2.2.length,k30⟩) A7u rfl 1 rfl rfl)) (⟨(q15,rs16,k17),⟨hr18,(by first|omega|(simp only [List.length_take,List.length_drop,List.length_append,List.length_cons,List.length_nil,List.length_set,List.length_map];omega)|decide),(by first|omega|(simp only [List.length_take,List.length_drop,List.length_append,List.length_cons,List.length_nil,List.length_set,List.length_map];omega)|decide)⟩⟩,⟨(lr,lrs),⟨hoklr,hrowslrs⟩⟩,(zq q29 k30)) (mc [[bx b34 (A6 ({y1.1 with cursor:={Cur.zero with row:=f.cursor.row,col:=f.cursor.col},modes:={y1.1.modes with visible:=f.visible},shape:=f.shape,title:=f.title}) ⟨q15,y1.2.1.length,k17⟩ ⟨va lr.q,l.length,lr.k⟩ ⟨none,0,0⟩ ⟨q29,y1.2.2.2.length,k30⟩) 52],[bx b2 (A6 ({y1.1 with cursor:={Cur.zero with row:=f.cursor.row,col:=f.cursor.col},modes:={y1.1.modes with visible:=f.visible},shape:=f.shape,title:=f.title}) ⟨q15,y1.2.1.length,k17⟩ ⟨va lr.q,l.length,lr.k⟩ ⟨none,0,0⟩ ⟨q29,y1.2.2.2.length,k30⟩) 52],[bx b1 (A0 f ⟨fQ,fR.length,fK⟩) 26],vo B7 78 lr lrs] [false,false,false,true] rfl (by first|rfl|(simp only [List.length_set]<;>rfl))) (A4.con1 (B5 0 rfl) (A4.con1 (B5 1 rfl) (A4.con1 (B5 12 rfl) (A4.con1 (B5 4 rfl) fn0))))
def X5 (b:List Bool):List Bool→Nat→Bool
 | [],i=>true
 | hd_l0::tl_l0,i=>(bif (!(hd_l0 == (b.getD i false))) then false else X5 b tl_l0 (i+1))
def A1l (a:List Bool) (b:List Bool):Bool :=
 (bif (!decide ((a.length:Int)=(b.length:Int))) then false else X5 b a 0)
theorem C0y (a:List Bool) (b:List Bool) (aq:Option Addr) (ak:Nat) (bq:Option Addr) (bk:Nat) (hla:a.length≤9223372036854775807) (hca:a.length≤ak) (hlb:b.length≤9223372036854775807) (hcb:b.length≤bk) (R:Bool) (hR:A1l a b=R):J8 Tryz.prog 53 [.slice aq a.length ak,.slice bq b.length bk] [sl D3 aq a,sl D3 bq b] (bv R):=by
 refine zco Tryz.func53 [(0,.slice aq a.length ak),(1,.slice bq b.length bk)] fun X hX hr hD=>?_
 replace hR:=(A1l.eq_1 ..).symm.trans hR
 refine sr 1 rfl (ip' 1 0 [] ?_)
 refine ie (A1 (sr 5 rfl (ip' 5 0 [(10,bv (!decide ((a.length:Int)=(b.length:Int))))] ?_)))
 refine ie ?_
 refine zjn rfl hR ?_ ?_<;>clear hR<;>intro hR h1 h1p
 ·refine sr 1 rfl (ip' 1 0 [(4,bv false)] ?_)
  subst hR
  refine ie (A7 ?_)
  exact E6 hr hD
 refine A5 (nx (A1 (sr 1 rfl (ip' 1 0 [(5,iv 0)] ?_))))
 refine ie (B0 (B4r (fun (i:Nat)=>(i≤a.length∧X5 b (a.drop i) i=R,[(0,.slice aq a.length ak),(1,.slice bq b.length bk),(5,iv (i:Int))],[],[sl D3 aq a,sl D3 bq b],a.length - i)) 0 ⟨(by omega),hR⟩ (mk [] rfl) A4.refl ?_))
 rintro i ⟨hm2,hR⟩
 refine A1 (sr 4 rfl (ip' 4 0 [(14,bv (decide ((i:Int)<(a.length:Int))))] ?_))
 refine ie (S5 rfl (fun h3=>?_) (fun h3=>?_))
 ·have h3p:(i:Int)<(a.length:Int):=by simpa using h3
  rw [V2 false (show i<a.length by omega)] at hR;replace hR:=(X5.eq_2 ..).symm.trans hR
  refine A5 (nx (A1 (B0 (sd 9 rfl (by kernel_rfl) rfl ?_))))
  refine dp' 2 7 [(17,.slice aq a.length ak),(18,iv (i:Int))] ?_
  refine A2j 0 rfl (by omega) fun a4 hq5=>?_
  refine dd rfl (F0 C5z rfl rfl hq5 rfl i rfl (by omega)) ?_
  refine dd rfl (C6 (v:=bv (a.getD i false)) (us:=[bv (a.getD i false)]) ty4 rfl rfl (G2 (c:=D3) (sz:=1) hq5 (fun _=>rfl) 0 rfl (gd false (by omega))) rfl) ?_
  refine dp' 2 3 [(21,.slice bq b.length bk),(22,iv (i:Int))] ?_
  refine A2j 1 rfl (by omega) fun a6 hq7=>?_
  refine dd rfl (F0 C5z rfl rfl hq7 rfl i rfl (by omega)) ?_
  refine dd rfl (C6 (v:=bv (b.getD i false)) (us:=[bv (b.getD i false)]) ty4 rfl rfl (G2 (c:=D3) (sz:=1) hq7 (fun _=>rfl) 1 rfl (gd false (by omega))) rfl) ?_
  refine dd rfl (B2a Tryz.underlying4 rfl rfl rfl) ?_
  refine de ?_
  refine zjb rfl hR ?_ ?_<;>clear hR<;>intro hR h8
  ·refine sr 1 rfl (ip' 1 0 [(4,bv false)] ?_)
   subst hR
   refine ie (A7 ?_)
   exact E6 hr hD
  refine A5 (nx (A3 3 rfl (ip' 1 2 [(15,iv (i:Int))] ?_)))
  refine ix rfl (B3 rfl rfl rfl rfl (by omega)) ?_
  refine ip' 1 0 [(5,iv ((i:Int)+1))] ?_
  refine A2 ?_
  exact B4z (z1:=i) (i+1) ⟨(by omega),hR⟩ (by (try dsimp only);omega) (mk [] rfl) A4.refl
 have h3p:¬ ((i:Int)<(a.length:Int)):=by simpa using h3
 rw [U7 h3p] at hR;replace hR:=(X5.eq_1 ..).symm.trans hR
 refine F7 (nx (sr 1 rfl (ip' 1 0 [(4,bv true)] ?_)))
 subst hR
 refine ie (A7 ?_)
 exact E6 hr hD
def Y0 (bCells:List Cel):List Cel→Nat→Bool
 | [],i=>true
 | hd_l0::tl_l0,i=>(bif (!(decide (hd_l0=(bCells.getD i Cel.zero)))) then false else Y0 bCells tl_l0 (i+1))
def A3j (aCells:List Cel) (aWrapped:Bool) (bCells:List Cel) (bWrapped:Bool):Bool :=
 (bif ((!decide ((aCells.length:Int)=(bCells.length:Int)))||(!(aWrapped == bWrapped))) then false else Y0 bCells aCells 0)
theorem C1l (aCells:List Cel) (aWrapped:Bool) (bCells:List Cel) (bWrapped:Bool) (aCellsq:Option Addr) (aCellsk:Nat) (bCellsq:Option Addr) (bCellsk:Nat) (hlaCells:aCells.length≤9223372036854775807) (hcaCells:aCells.length≤aCellsk) (hlbCells:bCells.length≤9223372036854775807) (hcbCells:bCells.length≤bCellsk) (R:Bool) (hR:A3j aCells aWrapped bCells bWrapped=R):J8 Tryz.prog 87 [ag [.slice aCellsq aCells.length aCellsk,bv aWrapped],ag [.slice bCellsq bCells.length bCellsk,bv bWrapped]] [sl B4 aCellsq aCells,sl B4 bCellsq bCells] (bv R):=by
 refine zco Tryz.func87 [(0,ag [.slice aCellsq aCells.length aCellsk,bv aWrapped]),(1,ag [.slice bCellsq bCells.length bCellsk,bv bWrapped])] fun X hX hr hD=>?_
 replace hR:=(A3j.eq_1 ..).symm.trans hR
 refine sr 3 rfl (A9f 3 0 [] (fun b1 b2=>[(2,pt b1 0),(3,pt b2 0)]) (fun b1 b2=>[bx b2 [.slice bCellsq bCells.length bCellsk,bv bWrapped] 78,bx b1 [.slice aCellsq aCells.length aCellsk,bv aWrapped] 78]) (fun b1 b2=>?_))
 refine ie (A1 (sr 14 rfl (zrl 8 6 [1,0] [(13,bv (!decide ((aCells.length:Int)=(bCells.length:Int))))] ?_)))
 refine zio 6 0 13 19 (!(aWrapped == bWrapped)) (fun g3=>?_) ?_
 ·have g3p:¬ (¬ (aCells.length:Int)=(bCells.length:Int)):=by simpa using g3
  refine zrl 4 2 [1,0] [(15,bv aWrapped),(17,bv bWrapped)] ?_
  refine ix rfl (B2a Tryz.underlying4 rfl rfl rfl) ?_
  refine ip' 1 0 [(19,bv (!(aWrapped == bWrapped)))] ?_
  exact zai 5 13 19 g3
 refine ie ?_
 refine zjb rfl hR ?_ ?_<;>clear hR<;>intro hR h4
 ·have h4p:=h4;try simp only [Bool.and_eq_true,Bool.or_eq_true,Bool.and_eq_false_iff,Bool.or_eq_false_iff,Bool.not_eq_true',Bool.not_eq_false',decide_eq_true_eq,decide_eq_false_iff_not] at h4p
  refine sr 1 rfl (ip' 1 0 [(4,bv false)] ?_)
  subst hR
  refine ie (A7 ?_)
  exact E6 hr hD
 have h4p:=h4;try simp only [Bool.and_eq_true,Bool.or_eq_true,Bool.and_eq_false_iff,Bool.or_eq_false_iff,Bool.not_eq_true',Bool.not_eq_false',decide_eq_true_eq,decide_eq_false_iff_not] at h4p
 refine A5 (nx (A1 (sr 1 rfl (ip' 1 0 [(5,iv 0)] ?_))))
 refine ie (B0 (B4r (fun (i:Nat)=>(i≤aCells.length∧Y0 bCells (aCells.drop i) i=R,[(2,pt b1 0),(3,pt b2 0),(5,iv (i:Int))],[bx b2 [.slice bCellsq bCells.length bCellsk,bv bWrapped] 78,bx b1 [.slice aCellsq aCells.length aCellsk,bv aWrapped] 78],[sl B4 aCellsq aCells,sl B4 bCellsq bCells],aCells.length - i)) 0 ⟨(by omega),hR⟩ (mk [true,true] rfl) A4.refl ?_))
 rintro i ⟨hm5,hR⟩
 refine A1 (sr 5 rfl (zrl 5 0 [1] [(24,bv (decide ((i:Int)<(aCells.length:Int))))] ?_))
 refine ie (S5 rfl (fun h6=>?_) (fun h6=>?_))
 ·have h6p:(i:Int)<(aCells.length:Int):=by simpa using h6
  rw [V2 Cel.zero (show i<aCells.length by omega)] at hR;replace hR:=(Y0.eq_2 ..).symm.trans hR
  refine A5 (nx (A1 (B0 (sd 11 rfl (by kernel_rfl) rfl ?_))))
  refine zdg 3 8 [1] [(28,.slice aCellsq aCells.length aCellsk),(29,iv (i:Int))] ?_
  refine A2j 0 rfl (by omega) fun a7 hq8=>?_
  refine dd rfl (F0 S1 rfl rfl hq8 rfl i rfl (by omega)) ?_
  refine dd rfl (M7 (us:=B4 (aCells.getD i Cel.zero)) B6w rfl rfl (G2 (c:=B4) (sz:=12) hq8 (fun _=>rfl) 0 rfl (gd Cel.zero (by omega))) rfl) ?_
  refine zdg 3 3 [0] [(33,.slice bCellsq bCells.length bCellsk),(34,iv (i:Int))] ?_
  refine A2j 1 rfl (by omega) fun a9 hq10=>?_
  refine dd rfl (F0 S1 rfl rfl hq10 rfl i rfl (by omega)) ?_
  refine dd rfl (M7 (us:=B4 (bCells.getD i Cel.zero)) B6w rfl rfl (G2 (c:=B4) (sz:=12) hq10 (fun _=>rfl) 1 rfl (gd Cel.zero (by omega))) rfl) ?_
  refine dd rfl (A0c (a:=(aCells.getD i Cel.zero)) (b:=(bCells.getD i Cel.zero)) C7s rfl rfl rfl) ?_
  refine de ?_
  refine zjn rfl hR ?_ ?_<;>clear hR<;>intro hR h11 h11p
  ·refine sr 1 rfl (ip' 1 0 [(4,bv false)] ?_)
   subst hR
   refine ie (A7 ?_)
   exact E6 hr hD
  refine A5 (nx (A3 3 rfl (ip' 1 2 [(25,iv (i:Int))] ?_)))
  refine ix rfl (B3 rfl rfl rfl rfl (by omega)) ?_
  refine ip' 1 0 [(5,iv ((i:Int)+1))] ?_
  refine A2 ?_
  exact B4z (z1:=i) (i+1) ⟨(by omega),hR⟩ (by (try dsimp only);omega) (mk [true,true] rfl) A4.refl
 have h6p:¬ ((i:Int)<(aCells.length:Int)):=by simpa using h6
 rw [U7 h6p] at hR;replace hR:=(Y0.eq_1 ..).symm.trans hR
 refine F7 (nx (sr 1 rfl (ip' 1 0 [(4,bv true)] ?_)))
 subst hR
 refine ie (A7 ?_)
 exact E6 hr hD
def X4 (b:List (Rwc Cel)):List (Rwc Cel)→Nat→Bool
 | [],i=>true
 | hd_l0::tl_l0,i=>(bif (!(A3j (hd_l0.l) (hd_l0.b) ((b.getD i zwc).l) ((b.getD i zwc).b))) then false else X4 b tl_l0 (i+1))
def Q2 (a:List (Rwc Cel)) (b:List (Rwc Cel)):Bool :=
 (bif (!decide ((a.length:Int)=(b.length:Int))) then false else X4 b a 0)
theorem B2i (a:List (Rwc Cel)) (b:List (Rwc Cel)) (aq:Option Addr) (ars:List Rwq) (ak:Nat) (bq:Option Addr) (brs:List Rwq) (bk:Nat) (hrowsars:C8 ars a) (hla:a.length≤9223372036854775807) (hca:a.length≤ak) (hrowsbrs:C8 brs b) (hlb:b.length≤9223372036854775807) (hcb:b.length≤bk) (R:Bool) (hR:Q2 a b=R):J8 Tryz.prog 54 [.slice aq a.length ak,.slice bq b.length bk] [sl B7 aq ars,C3 B4 ars a,sl B7 bq brs,C3 B4 brs b] (bv R):=by
 refine zco Tryz.func54 [(0,.slice aq a.length ak),(1,.slice bq b.length bk)] fun X hX hr hD=>?_
 replace hR:=(Q2.eq_1 ..).symm.trans hR
 have:=hrowsars.1
 have:=hrowsbrs.1
 refine sr 1 rfl (ip' 1 0 [] ?_)
 refine ie (A1 (sr 5 rfl (ip' 5 0 [(10,bv (!decide ((a.length:Int)=(b.length:Int))))] ?_)))
 refine ie ?_
 refine zjn rfl hR ?_ ?_<;>clear hR<;>intro hR h1 h1p
 ·refine sr 1 rfl (ip' 1 0 [(4,bv false)] ?_)
  subst hR
  refine ie (A7 ?_)
  exact E6 hr hD
 refine A5 (nx (A1 (sr 1 rfl (ip' 1 0 [(5,iv 0)] ?_))))
 refine ie (B0 (B4r (fun (i:Nat)=>(i≤a.length∧X4 b (a.drop i) i=R,[(0,.slice aq a.length ak),(1,.slice bq b.length bk),(5,iv (i:Int))],[],[sl B7 aq ars,C3 B4 ars a,sl B7 bq brs,C3 B4 brs b],a.length - i)) 0 ⟨(by omega),hR⟩ (mk [] rfl) A4.refl ?_))
 rintro i ⟨hm2,hR⟩
 refine A1 (sr 4 rfl (ip' 4 0 [(14,bv (decide ((i:Int)<(a.length:Int))))] ?_))
 refine ie (S5 rfl (fun h3=>?_) (fun h3=>?_))
 ·have h3p:(i:Int)<(a.length:Int):=by simpa using h3
  rw [V2 zwc (show i<a.length by omega)] at hR;replace hR:=(X4.eq_2 ..).symm.trans hR
  refine A5 (nx (A1 (B0 (sd 10 rfl (by kernel_rfl) rfl ?_))))
  refine dp' 2 8 [(17,.slice aq a.length ak),(18,iv (i:Int))] ?_
  refine A2j 0 rfl (by have:=hrowsars.1;omega) fun a4 hq5=>?_
  refine A7f (C4s (k:=i) hrowsars 1 rfl (by have:=hrowsars.1;omega)) ?_
  have:=B6n hrowsars (k:=i) (by have:=hrowsars.1;omega)
  refine dd rfl (F0 B0h rfl rfl hq5 rfl i rfl (by omega)) ?_
  refine dd rfl (H1 (M7 (us:=[.slice ((ars.getD i zwq).s.q) ((ars.getD i zwq).s.n) ((ars.getD i zwq).s.k),bv ((ars.getD i zwq).b)]) C3e rfl rfl (G2 (c:=B7) (sz:=2) hq5 (fun _=>rfl) 1 rfl (gd zwq (by have:=hrowsars.1;omega))) rfl) (C5h hrowsars (by have:=hrowsars.1;omega))) ?_
  refine dp' 2 4 [(21,.slice bq b.length bk),(22,iv (i:Int))] ?_
  refine A2j 3 rfl (by have:=hrowsbrs.1;omega) fun a6 hq7=>?_
  refine A7f (C4s (k:=i) hrowsbrs 4 rfl (by have:=hrowsbrs.1;omega)) ?_
  have:=B6n hrowsbrs (k:=i) (by have:=hrowsbrs.1;omega)
  refine dd rfl (F0 B0h rfl rfl hq7 rfl i rfl (by omega)) ?_
  refine dd rfl (H1 (M7 (us:=[.slice ((brs.getD i zwq).s.q) ((brs.getD i zwq).s.n) ((brs.getD i zwq).s.k),bv ((brs.getD i zwq).b)]) C3e rfl rfl (G2 (c:=B7) (sz:=2) hq7 (fun _=>rfl) 4 rfl (gd zwq (by have:=hrowsbrs.1;omega))) rfl) (C5h hrowsbrs (by have:=hrowsbrs.1;omega))) ?_
  refine zcd (C1l ((a.getD i zwc).l) ((a.getD i zwc).b) ((b.getD i zwc).l) ((b.getD i zwc).b) ((ars.getD i zwq).s.q) ((ars.getD i zwq).s.k) ((brs.getD i zwq).s.q) ((brs.getD i zwq).s.k) (by first|omega|(simp only [List.length_take,List.length_drop,List.length_append,List.length_cons,List.length_nil,List.length_set,List.length_map];omega)|decide) (by first|omega|(simp only [List.length_take,List.length_drop,List.length_append,List.length_cons,List.length_nil,List.length_set,List.length_map];omega)|decide) (by first|omega|(simp only [List.length_take,List.length_drop,List.length_append,List.length_cons,List.length_nil,List.length_set,List.length_map];omega)|decide) (by first|omega|(simp only [List.length_take,List.length_drop,List.length_append,List.length_cons,List.length_nil,List.length_set,List.length_map];omega)|decide) _ rfl) (A4.pick [1,0] rfl) ?_
  refine dp' 1 0 [(26,bv (!(A3j ((a.getD i zwc).l) ((a.getD i zwc).b) ((b.getD i zwc).l) ((b.getD i zwc).b))))] ?_
  refine de ?_
  refine zjb rfl hR ?_ ?_<;>clear hR<;>intro hR h8
  ·refine sr 1 rfl (ip' 1 0 [(4,bv false)] ?_)
   subst hR
   refine ie (A7 ?_)
   exact E6 hr hD
  refine A5 (nx (A3 3 rfl (ip' 1 2 [(15,iv (i:Int))] ?_)))
  refine ix rfl (B3 rfl rfl rfl rfl (by omega)) ?_
  refine ip' 1 0 [(5,iv ((i:Int)+1))] ?_
  refine A2 ?_
  exact B4z (z1:=i) (i+1) ⟨(by omega),hR⟩ (by (try dsimp only);omega) (mk [] rfl) (A4.pick [2,3,4,5] rfl)
 have h3p:¬ ((i:Int)<(a.length:Int)):=by simpa using h3
 rw [U7 h3p] at hR;replace hR:=(X4.eq_1 ..).symm.trans hR
 refine F7 (nx (sr 1 rfl (ip' 1 0 [(4,bv true)] ?_)))
 subst hR
 refine ie (A7 ?_)
 exact E6 hr hD
def A5b:Nat→Nat→Bool
 | 0,_=>false
 | fu1+1,i=>true
def A0i:Bool :=
 A5b ((0 - 0)+1) 0
theorem B7s (R:Bool) (hR:A0i=R):J8 Tryz.prog 54 [.slice none 0 0,.slice none 0 0] [] (bv R):=by
 refine zco Tryz.func54 [(0,.slice none 0 0),(1,.slice none 0 0)] fun X hX hr hD=>?_
 replace hR:=(A0i.eq_1 ..).symm.trans hR
 refine sr 1 rfl (ip' 1 0 [] ?_)
 refine ie (A1 (sr 5 rfl (ip' 5 0 [(10,bv false)] ?_)))
 refine ie (K6 rfl (A5 (nx (A1 (sr 1 rfl (ip' 1 0 [(5,iv 0)] ?_))))))
 refine ie (B0 (C7o (fun (fu:Nat) (i:Nat)=>((0 - i)<fu∧A5b fu i=R,[(0,.slice none 0 0),(1,.slice none 0 0),(5,iv (i:Int))],[],[],fu)) ((0 - 0)+1) 0 ⟨(Nat.lt_succ_self _),hR⟩ (mk [] rfl) fn0 ?_))
 rintro fu i ⟨hm1,hR⟩
 obtain ⟨fu1,rfl⟩:∃ m,fu=m+1:=⟨fu - 1,by omega⟩
 replace hR:=(A5b.eq_2 ..).symm.trans hR
 refine A1 (sr 4 rfl (ip' 4 0 [(14,bv (decide ((i:Int)<0)))] ?_))
 refine ie (S5 rfl (fun h2=>?_) (fun h2=>?_))
 ·have h2p:(i:Int)<0:=by simpa using h2
  exfalso;omega
 have h2p:¬ ((i:Int)<0):=by simpa using h2
 refine F7 (nx (sr 1 rfl (ip' 1 0 [(4,bv true)] ?_)))
 subst hR
 refine ie (A7 ?_)
 exact E6 hr hD
def A3f (a:ScrC) (aMain:List (Rwc Cel)) (aAlt:List (Rwc Cel)) (aTabs:List Bool) (b:ScrC) (bMain:List (Rwc Cel)) (bAlt:List (Rwc Cel)) (bTabs:List Bool):Bool :=
 (bif (((((((((!decide (a.cols=b.cols))||(!decide (a.rows=b.rows)))||(!(a.onAlt == b.onAlt)))||(!(decide (a.cursor=b.cursor))))||(!(decide (a.style=b.style))))||(!(decide (a.sets=b.sets))))||(!(decide (a.modes=b.modes))))||(!decide (a.top=b.top)))||(!decide (a.bottom=b.bottom))) then false else (bif ((((((!(decide (a.kept=b.kept)))||(!(decide (a.keptAlt=b.keptAlt))))||(!decide (a.shape=b.shape)))||(!(decide (a.title=b.title))))||(!decide (a.last=b.last)))||(!(A1l aTabs bTabs))) then false else (((Q2 aMain bMain)&&(Q2 aAlt bAlt))&&A0i)))
theorem C0e (a:ScrC) (aMain:List (Rwc Cel)) (aAlt:List (Rwc Cel)) (aTabs:List Bool) (b:ScrC) (bMain:List (Rwc Cel)) (bAlt:List (Rwc Cel)) (bTabs:List Bool) (aMainq:Option Addr) (aMainrs:List Rwq) (aMaink:Nat) (aAltq:Option Addr) (aAltrs:List Rwq) (aAltk:Nat) (aTabsq:Option Addr) (aTabsk:Nat) (bMainq:Option Addr) (bMainrs:List Rwq) (bMaink:Nat) (bAltq:Option Addr) (bAltrs:List Rwq) (bAltk:Nat) (bTabsq:Option Addr) (bTabsk:Nat) (hrowsaMainrs:C8 aMainrs aMain) (hlaMain:aMain.length≤9223372036854775807) (hcaMain:aMain.length≤aMaink) (hrowsaAltrs:C8 aAltrs aAlt) (hlaAlt:aAlt.length≤9223372036854775807) (hcaAlt:aAlt.length≤aAltk) (hlaTabs:aTabs.length≤9223372036854775807) (hcaTabs:aTabs.length≤aTabsk) (hrowsbMainrs:C8 bMainrs bMain) (hlbMain:bMain.length≤9223372036854775807) (hcbMain:bMain.length≤bMaink) (hrowsbAltrs:C8 bAltrs bAlt) (hlbAlt:bAlt.length≤9223372036854775807) (hcbAlt:bAlt.length≤bAltk) (hlbTabs:bTabs.length≤9223372036854775807) (hcbTabs:bTabs.length≤bTabsk) (R:Bool) (hR:A3f a aMain aAlt aTabs b bMain bAlt bTabs=R):J8 Tryz.prog 23 [ag (A6 a ⟨aMainq,aMain.length,aMaink⟩ ⟨aAltq,aAlt.length,aAltk⟩ ⟨none,0,0⟩ ⟨aTabsq,aTabs.length,aTabsk⟩),ag (A6 b ⟨bMainq,bMain.length,bMaink⟩ ⟨bAltq,bAlt.length,bAltk⟩ ⟨none,0,0⟩ ⟨bTabsq,bTabs.length,bTabsk⟩)] [sl B7 aMainq aMainrs,C3 B4 aMainrs aMain,sl B7 aAltq aAltrs,C3 B4 aAltrs aAlt,sl D3 aTabsq aTabs,sl B7 bMainq bMainrs,C3 B4 bMainrs bMain,sl B7 bAltq bAltrs,C3 B4 bAltrs bAlt,sl D3 bTabsq bTabs] (bv R):=by
 refine zco Tryz.func23 [(0,ag (A6 a ⟨aMainq,aMain.length,aMaink⟩ ⟨aAltq,aAlt.length,aAltk⟩ ⟨none,0,0⟩ ⟨aTabsq,aTabs.length,aTabsk⟩)),(1,ag (A6 b ⟨bMainq,bMain.length,bMaink⟩ ⟨bAltq,bAlt.length,bAltk⟩ ⟨none,0,0⟩ ⟨bTabsq,bTabs.length,bTabsk⟩))] fun X hX hr hD=>?_
 replace hR:=(A3f.eq_1 ..).symm.trans hR
 have:=hrowsaMainrs.1
 have:=hrowsaAltrs.1
 have:=hrowsbMainrs.1
 have:=hrowsbAltrs.1
 refine sr 3 rfl (A9f 3 0 [] (fun b1 b2=>[(2,pt b1 0),(3,pt b2 0)]) (fun b1 b2=>[bx b2 (A6 b ⟨bMainq,bMain.length,bMaink⟩ ⟨bAltq,bAlt.length,bAltk⟩ ⟨none,0,0⟩ ⟨bTabsq,bTabs.length,bTabsk⟩) 52,bx b1 (A6 a ⟨aMainq,aMain.length,aMaink⟩ ⟨aAltq,aAlt.length,aAltk⟩ ⟨none,0,0⟩ ⟨aTabsq,aTabs.length,aTabsk⟩) 52]) (fun b1 b2=>?_))
 refine ie (A1 (sr 61 rfl (zrl 6 55 [1,0] [(10,bv (!decide (a.cols=b.cols)))] ?_)))
 refine zio 6 49 10 16 (!decide (a.rows=b.rows)) (fun g3=>?_) ?_
 ·have g3p:¬ (¬ a.cols=b.cols):=by simpa using g3
  refine zrl 6 0 [1,0] [(16,bv (!decide (a.rows=b.rows)))] ?_
  exact zai 2 10 16 g3
 refine ip' 1 48 [(17,bv ((!decide (a.cols=b.cols))||(!decide (a.rows=b.rows))))] ?_
 refine zio 6 42 17 23 (!(a.onAlt == b.onAlt)) (fun g4=>?_) ?_
 ·have g4p:¬ ((¬ a.cols=b.cols)∨(¬ a.rows=b.rows)):=by simpa using g4
  refine zrl 4 2 [1,0] [(19,bv a.onAlt),(21,bv b.onAlt)] ?_
  refine ix rfl (B2a Tryz.underlying4 rfl rfl rfl) ?_
  refine ip' 1 0 [(23,bv (!(a.onAlt == b.onAlt)))] ?_
  exact zai 5 17 23 g4
 refine ip' 1 41 [(24,bv (((!decide (a.cols=b.cols))||(!decide (a.rows=b.rows)))||(!(a.onAlt == b.onAlt))))] ?_
 refine zio 6 35 24 30 (!(decide (a.cursor=b.cursor))) (fun g5=>?_) ?_
 ·have g5p:=g5;try simp only [Bool.and_eq_true,Bool.or_eq_true,Bool.and_eq_false_iff,Bool.or_eq_false_iff,Bool.not_eq_true',Bool.not_eq_false',decide_eq_true_eq,decide_eq_false_iff_not] at g5p
  refine zrl 4 2 [1,0] [(26,ag (A5l a.cursor)),(28,ag (A5l b.cursor))] ?_
  refine ix rfl (A0c (a:=a.cursor) (b:=b.cursor) D5v rfl rfl rfl) ?_
  refine ip' 1 0 [(30,bv (!(decide (a.cursor=b.cursor))))] ?_
  exact zai 5 24 30 g5
 refine ip' 1 34 [(31,bv ((((!decide (a.cols=b.cols))||(!decide (a.rows=b.rows)))||(!(a.onAlt == b.onAlt)))||(!(decide (a.cursor=b.cursor)))))] ?_
 refine zio 6 28 31 37 (!(decide (a.style=b.style))) (fun g6=>?_) ?_
 ·have g6p:=g6;try simp only [Bool.and_eq_true,Bool.or_eq_true,Bool.and_eq_false_iff,Bool.or_eq_false_iff,Bool.not_eq_true',Bool.not_eq_false',decide_eq_true_eq,decide_eq_false_iff_not] at g6p
  refine zrl 4 2 [1,0] [(33,ag (G4 a.style)),(35,ag (G4 b.style))] ?_
  refine ix rfl (A0c (a:=a.style) (b:=b.style) C8e rfl rfl rfl) ?_
  refine ip' 1 0 [(37,bv (!(decide (a.style=b.style))))] ?_
  exact zai 5 31 37 g6
 refine ip' 1 27 [(38,bv (((((!decide (a.cols=b.cols))||(!decide (a.rows=b.rows)))||(!(a.onAlt == b.onAlt)))||(!(decide (a.cursor=b.cursor))))||(!(decide (a.style=b.style)))))] ?_
 refine zio 6 21 38 44 (!(decide (a.sets=b.sets))) (fun g7=>?_) ?_
 ·have g7p:=g7;try simp only [Bool.and_eq_true,Bool.or_eq_true,Bool.and_eq_false_iff,Bool.or_eq_false_iff,Bool.not_eq_true',Bool.not_eq_false',decide_eq_true_eq,decide_eq_false_iff_not] at g7p
  refine zrl 4 2 [1,0] [(40,ag (A5p a.sets)),(42,ag (A5p b.sets))] ?_
  refine ix rfl (A0c (a:=a.sets) (b:=b.sets) D5k rfl rfl rfl) ?_
  refine ip' 1 0 [(44,bv (!(decide (a.sets=b.sets))))] ?_
  exact zai 5 38 44 g7
 refine ip' 1 20 [(45,bv ((((((!decide (a.cols=b.cols))||(!decide (a.rows=b.rows)))||(!(a.onAlt == b.onAlt)))||(!(decide (a.cursor=b.cursor))))||(!(decide (a.style=b.style))))||(!(decide (a.sets=b.sets)))))] ?_
 refine zio 6 14 45 51 (!(decide (a.modes=b.modes))) (fun g8=>?_) ?_
 ·have g8p:=g8;try simp only [Bool.and_eq_true,Bool.or_eq_true,Bool.and_eq_false_iff,Bool.or_eq_false_iff,Bool.not_eq_true',Bool.not_eq_false',decide_eq_true_eq,decide_eq_false_iff_not] at g8p
  refine zrl 4 2 [1,0] [(47,ag (A1n a.modes)),(49,ag (A1n b.modes))] ?_
  refine ix rfl (A0c (a:=a.modes) (b:=b.modes) D6d rfl rfl rfl) ?_
  refine ip' 1 0 [(51,bv (!(decide (a.modes=b.modes))))] ?_
  exact zai 5 45 51 g8
 refine ip' 1 13 [(52,bv (((((((!decide (a.cols=b.cols))||(!decide (a.rows=b.rows)))||(!(a.onAlt == b.onAlt)))||(!(decide (a.cursor=b.cursor))))||(!(decide (a.style=b.style))))||(!(decide (a.sets=b.sets))))||(!(decide (a.modes=b.modes)))))] ?_
 refine zio 6 7 52 58 (!decide (a.top=b.top)) (fun g9=>?_) ?_
 ·have g9p:=g9;try simp only [Bool.and_eq_true,Bool.or_eq_true,Bool.and_eq_false_iff,Bool.or_eq_false_iff,Bool.not_eq_true',Bool.not_eq_false',decide_eq_true_eq,decide_eq_false_iff_not] at g9p
  refine zrl 6 0 [1,0] [(58,bv (!decide (a.top=b.top)))] ?_
  exact zai 2 52 58 g9
 refine ip' 1 6 [(59,bv ((((((((!decide (a.cols=b.cols))||(!decide (a.rows=b.rows)))||(!(a.onAlt == b.onAlt)))||(!(decide (a.cursor=b.cursor))))||(!(decide (a.style=b.style))))||(!(decide (a.sets=b.sets))))||(!(decide (a.modes=b.modes))))||(!decide (a.top=b.top))))] ?_
 refine zio 6 0 59 65 (!decide (a.bottom=b.bottom)) (fun g10=>?_) ?_
 ·have g10p:=g10;try simp only [Bool.and_eq_true,Bool.or_eq_true,Bool.and_eq_false_iff,Bool.or_eq_false_iff,Bool.not_eq_true',Bool.not_eq_false',decide_eq_true_eq,decide_eq_false_iff_not] at g10p
  refine zrl 6 0 [1,0] [(65,bv (!decide (a.bottom=b.bottom)))] ?_
  exact zai 2 59 65 g10
 refine ie ?_
 refine zjb rfl hR ?_ ?_<;>clear hR<;>intro hR h11
 ·have h11p:=h11;try simp only [Bool.and_eq_true,Bool.or_eq_true,Bool.and_eq_false_iff,Bool.or_eq_false_iff,Bool.not_eq_true',Bool.not_eq_false',decide_eq_true_eq,decide_eq_false_iff_not] at h11p
  refine sr 1 rfl (ip' 1 0 [(4,bv false)] ?_)
  subst hR
  refine ie (A7 ?_)
  exact E6 hr hD
 have h11p:=h11;try simp only [Bool.and_eq_true,Bool.or_eq_true,Bool.and_eq_false_iff,Bool.or_eq_false_iff,Bool.not_eq_true',Bool.not_eq_false',decide_eq_true_eq,decide_eq_false_iff_not] at h11p
 refine A5 (nx (A1 (sr 41 rfl (zrl 4 37 [1,0] [(67,ag (X7 a.kept)),(69,ag (X7 b.kept))] ?_))))
 refine ix rfl (A0c (a:=a.kept) (b:=b.kept) C9p rfl rfl rfl) ?_
 refine ip' 1 35 [(71,bv (!(decide (a.kept=b.kept))))] ?_
 refine zio 6 29 71 77 (!(decide (a.keptAlt=b.keptAlt))) (fun g12=>?_) ?_
 ·have g12p:¬ (¬ a.kept=b.kept):=by simpa using g12
  refine zrl 4 2 [1,0] [(73,ag (X7 a.keptAlt)),(75,ag (X7 b.keptAlt))] ?_
  refine ix rfl (A0c (a:=a.keptAlt) (b:=b.keptAlt) C9p rfl rfl rfl) ?_
  refine ip' 1 0 [(77,bv (!(decide (a.keptAlt=b.keptAlt))))] ?_
  exact zai 5 71 77 g12
 refine ip' 1 28 [(78,bv ((!(decide (a.kept=b.kept)))||(!(decide (a.keptAlt=b.keptAlt)))))] ?_
 refine zio 6 22 78 84 (!decide (a.shape=b.shape)) (fun g13=>?_) ?_
 ·have g13p:¬ ((¬ a.kept=b.kept)∨(¬ a.keptAlt=b.keptAlt)):=by simpa using g13
  refine zrl 6 0 [1,0] [(84,bv (!decide (a.shape=b.shape)))] ?_
  exact zai 2 78 84 g13
 refine ip' 1 21 [(85,bv (((!(decide (a.kept=b.kept)))||(!(decide (a.keptAlt=b.keptAlt))))||(!decide (a.shape=b.shape))))] ?_
 refine zio 6 15 85 91 (!(decide (a.title=b.title))) (fun g14=>?_) ?_
 ·have g14p:¬ (((¬ a.kept=b.kept)∨(¬ a.keptAlt=b.keptAlt))∨(¬ a.shape=b.shape)):=by simpa using g14
  refine zrl 4 2 [1,0] [(87,sv a.title),(89,sv b.title)] ?_
  refine ix rfl (B2q rfl rfl rfl) ?_
  refine ip' 1 0 [(91,bv (!(decide (a.title=b.title))))] ?_
  exact zai 5 85 91 g14
 refine ip' 1 14 [(92,bv ((((!(decide (a.kept=b.kept)))||(!(decide (a.keptAlt=b.keptAlt))))||(!decide (a.shape=b.shape)))||(!(decide (a.title=b.title)))))] ?_
 refine zio 6 8 92 98 (!decide (a.last=b.last)) (fun g15=>?_) ?_
 ·have g15p:¬ ((((¬ a.kept=b.kept)∨(¬ a.keptAlt=b.keptAlt))∨(¬ a.shape=b.shape))∨(¬ a.title=b.title)):=by simpa using g15
  refine zrl 6 0 [1,0] [(98,bv (!decide (a.last=b.last)))] ?_
  exact zai 2 92 98 g15
 refine ip' 1 7 [(99,bv (((((!(decide (a.kept=b.kept)))||(!(decide (a.keptAlt=b.keptAlt))))||(!decide (a.shape=b.shape)))||(!(decide (a.title=b.title))))||(!decide (a.last=b.last))))] ?_
 refine zio 7 0 99 106 (!(A1l aTabs bTabs)) (fun g16=>?_) ?_
 ·have g16p:¬ (((((¬ a.kept=b.kept)∨(¬ a.keptAlt=b.keptAlt))∨(¬ a.shape=b.shape))∨(¬ a.title=b.title))∨(¬ a.last=b.last)):=by simpa using g16
  refine zrl 4 3 [1,0] [(101,.slice aTabsq aTabs.length aTabsk),(103,.slice bTabsq bTabs.length bTabsk)] ?_
  refine zca (C0y aTabs bTabs aTabsq aTabsk bTabsq bTabsk (by first|omega|(simp only [List.length_take,List.length_drop,List.length_append,List.length_cons,List.length_nil,List.length_set,List.length_map];omega)|decide) (by first|omega|(simp only [List.length_take,List.length_drop,List.length_append,List.length_cons,List.length_nil,List.length_set,List.length_map];omega)|decide) (by first|omega|(simp only [List.length_take,List.length_drop,List.length_append,List.length_cons,List.length_nil,List.length_set,List.length_map];omega)|decide) (by first|omega|(simp only [List.length_take,List.length_drop,List.length_append,List.length_cons,List.length_nil,List.length_set,List.length_map];omega)|decide) _ rfl) (A4.pick [4,9] rfl) ?_
  refine ip' 2 0 [(106,bv (!(A1l aTabs bTabs)))] ?_
  exact zai 5 99 106 g16
 refine ie ?_
 refine zjb rfl hR ?_ ?_<;>clear hR<;>intro hR h17
 ·have h17p:=h17;try simp only [Bool.and_eq_true,Bool.or_eq_true,Bool.and_eq_false_iff,Bool.or_eq_false_iff,Bool.not_eq_true',Bool.not_eq_false',decide_eq_true_eq,decide_eq_false_iff_not] at h17p
  refine sr 1 rfl (ip' 1 0 [(4,bv false)] ?_)
  subst hR
  refine ie (A7 ?_)
  exact E6 hr hD
 have h17p:=h17;try simp only [Bool.and_eq_true,Bool.or_eq_true,Bool.and_eq_false_iff,Bool.or_eq_false_iff,Bool.not_eq_true',Bool.not_eq_false',decide_eq_true_eq,decide_eq_false_iff_not] at h17p
 refine A5 (nx (sr 20 rfl (zrl 4 16 [1,0] [(108,.slice aMainq aMain.length aMaink),(110,.slice bMainq bMain.length bMaink)] ?_)))
 refine zca (B2i aMain bMain aMainq aMainrs aMaink bMainq bMainrs bMaink hrowsaMainrs (by first|omega|(simp only [List.length_take,List.length_drop,List.length_append,List.length_cons,List.length_nil,List.length_set,List.length_map];omega)|decide) (by first|omega|(simp only [List.length_take,List.length_drop,List.length_append,List.length_cons,List.length_nil,List.length_set,List.length_map];omega)|decide) hrowsbMainrs (by first|omega|(simp only [List.length_take,List.length_drop,List.length_append,List.length_cons,List.length_nil,List.length_set,List.length_map];omega)|decide) (by first|omega|(simp only [List.length_take,List.length_drop,List.length_append,List.length_cons,List.length_nil,List.length_set,List.length_map];omega)|decide) _ rfl) (A4.pick [0,1,5,6] rfl) ?_
 refine ip' 1 14 [(112,bv (Q2 aMain bMain))] ?_
 refine zia 6 8 112 118 (Q2 aAlt bAlt) (fun g18=>?_) ?_
 ·refine zrl 4 2 [1,0] [(114,.slice aAltq aAlt.length aAltk),(116,.slice bAltq bAlt.length bAltk)] ?_
  refine zca (B2i aAlt bAlt aAltq aAltrs aAltk bAltq bAltrs bAltk hrowsaAltrs (by first|omega|(simp only [List.length_take,List.length_drop,List.length_append,List.length_cons,List.length_nil,List.length_set,List.length_map];omega)|decide) (by first|omega|(simp only [List.length_take,List.length_drop,List.length_append,List.length_cons,List.length_nil,List.length_set,List.length_map];omega)|decide) hrowsbAltrs (by first|omega|(simp only [List.length_take,List.length_drop,List.length_append,List.length_cons,List.length_nil,List.length_set,List.length_map];omega)|decide) (by first|omega|(simp only [List.length_take,List.length_drop,List.length_append,List.length_cons,List.length_nil,List.length_set,List.length_map];omega)|decide) _ rfl) (A4.pick [2,3,7,8] rfl) ?_
  refine ip' 1 0 [(118,bv (Q2 aAlt bAlt))] ?_
  exact zai 5 112 118 g18
 refine ip' 1 7 [(119,bv ((Q2 aMain bMain)&&(Q2 aAlt bAlt)))] ?_
 refine zia 6 1 119 125 A0i (fun g19=>?_) ?_
 ·have g19p:=g19;try simp only [Bool.and_eq_true,Bool.or_eq_true,Bool.and_eq_false_iff,Bool.or_eq_false_iff,Bool.not_eq_true',Bool.not_eq_false',decide_eq_true_eq,decide_eq_false_iff_not] at g19p
  refine zrl 4 2 [1,0] [(121,.slice none 0 0),(123,.slice none 0 0)] ?_
  refine zca (B7s _ rfl) fn0 ?_
  refine ip' 1 0 [(125,bv A0i)] ?_
  exact zai 5 119 125 g19
 refine ip' 1 0 [(4,bv (((Q2 aMain bMain)&&(Q2 aAlt bAlt))&&A0i))] ?_
 subst hR
 refine ie (A7 ?_)
 exact E6 hr hD
def A0w (f:FrmC) (fR:List (List Cel)):Bool :=
 (bif (!A4b) then false else (D5 (X2 f fR) fun (y0:ScrC×List (Rwc Cel)×List (Rwc Cel)×List Bool×Int)=>(bif (!(X0 f fR)) then ((decide (y0.2.2.2.2=330))&&(decide ((y0.2.1.length:Int)=0))) else (bif (decide (y0.2.2.2.2=0)) then (D5 (A4c f fR) fun (y7:ScrC×List (Rwc Cel)×List (Rwc Cel)×List Bool)=>(A3f y0.1 y0.2.1 y0.2.2.1 y0.2.2.2.1 y7.1 y7.2.1 y7.2.2.1 y7.2.2.2)) else false))))
theorem B1g (f:FrmC) (fR:List (List Cel)) (fQ:Option Addr) (fZ:List Slc) (fK:Nat) (hrowsfRowsrs:D0 fZ fR) (hlfRows:fR.length≤9223372036854775807) (hcfRows:fR.length≤fK) (hT:f.title.length≤100000000) (R:Bool) (hR:A0w f fR=R):J8 Tryz.prog 6 [ag (A0 f ⟨fQ,fR.length,fK⟩)] [sl C7 fQ fZ,H0 B4 fZ fR,A3z,A3w] (bv R):=by
 refine zco Tryz.func6 [(0,ag (A0 f ⟨fQ,fR.length,fK⟩))] fun X hX hr hD=>?_
 replace hR:=(A0w.eq_1 ..).symm.trans hR
 have:=hrowsfRowsrs.1
 refine sr 2 rfl (K0 2 0 [] (fun b1=>[(1,pt b1 0)]) (fun b1=>[bx b1 (A0 f ⟨fQ,fR.length,fK⟩) 26]) (fun b1=>?_))
 refine ie (A1 (sr 2 rfl (zca (B8d _ rfl) (A4.pick [2,3] rfl) ?_)))
 refine ip' 1 0 [(6,bv (!A4b))] ?_
 refine ie ?_
 refine zjb rfl hR ?_ ?_<;>clear hR<;>intro hR h2
 ·refine sr 1 rfl (ip' 1 0 [(2,bv false)] ?_)
  subst hR
  refine ie (A7 ?_)
  exact E6 hr hD
 refine A5 (nx (sr 8 rfl (zrl 1 7 [0] [(8,ag (A0 f ⟨fQ,fR.length,fK⟩))] ?_)))
 have hQ:=F5 hR;clear hR;obtain ⟨y0,hy0,hR⟩:=hQ
 refine it rfl (H2 (L2:=[bx b1 (A0 f ⟨fQ,fR.length,fK⟩) 26]) (B0g f fR fQ fZ fK hrowsfRowsrs (by first|omega|(simp only [List.length_take,List.length_drop,List.length_append,List.length_cons,List.length_nil,List.length_set,List.length_map];omega)|decide) (by first|omega|(simp only [List.length_take,List.length_drop,List.length_append,List.length_cons,List.length_nil,List.length_set,List.length_map];omega)|decide) (by first|omega|(simp only [List.length_nil];omega)|(dsimp only;omega)) y0 hy0) rfl rfl rfl rfl rfl A4.refl (List.Perm.refl _) (fun ⟨⟨⟨q3,rs4,k5⟩,hp8⟩,⟨⟨r10,rs11⟩,hp14⟩,⟨⟨q15,k16⟩,hp17⟩⟩=>(bx b1 (A0 f ⟨fQ,fR.length,fK⟩) 26::(vo B7 78 r10 rs11)++([]))) (fun ⟨⟨⟨q3,rs4,k5⟩,hp8⟩,⟨⟨r10,rs11⟩,hp14⟩,⟨⟨q15,k16⟩,hp17⟩⟩=>H5 [vo B7 78 r10 rs11,[bx b1 (A0 f ⟨fQ,fR.length,fK⟩) 26]] [1,0] 2 rfl (by decide) (by first|rfl|simp only [List.flatten_cons,List.flatten_nil,List.append_nil,List.cons_append,List.nil_append,List.append_assoc]) [[bx b1 (A0 f ⟨fQ,fR.length,fK⟩) 26],vo B7 78 r10 rs11] rfl (by first|rfl|simp only [List.flatten_cons,List.flatten_nil,List.append_nil,List.cons_append,List.nil_append,List.append_assoc]))) fun ⟨⟨⟨q3,rs4,k5⟩,hp8⟩,⟨⟨r10,rs11⟩,hp14⟩,⟨⟨q15,k16⟩,hp17⟩⟩=>?_
 obtain ⟨hr6,hc7,hl9⟩:=hp8
 try dsimp only at hp14
 obtain ⟨hk12,hw13⟩:=hp14
 obtain ⟨hc18,hl19⟩:=hp17
 have:=VOk.le hk12
 have:=VOk.cap hk12
 have:=hr6.1
 have:=hw13.1
 have ht_rframeShows:=A6d f fR;rw [hy0] at ht_rframeShows
 refine O7 [bx b1 (A0 f ⟨fQ,fR.length,fK⟩) 26] [] (T:=78) (c:=B7) (r:=r10) (xs:=rs11) (VOk.cast hk12 (by rw [hw13.1])) (by first|rfl|simp only [List.cons_append,List.append_assoc,List.nil_append,List.append_nil]) ?_
 refine K0 6 0 [0] (fun b20=>[(3,pt b20 0),(4,iv y0.2.2.2.2)]) (fun b20=>[bx b20 (A6 y0.1 ⟨q3,y0.2.1.length,k5⟩ ⟨va r10.q,y0.2.2.1.length,r10.k⟩ ⟨none,0,0⟩ ⟨q15,y0.2.2.2.1.length,k16⟩) 52,bx b1 (A0 f ⟨fQ,fR.length,fK⟩) 26]) (fun b20=>?_)
 refine ie (A1 (sr 3 rfl (zrl 1 2 [1] [(12,ag (A0 f ⟨fQ,fR.length,fK⟩))] ?_)))
 refine zca (B7o f fR fQ fZ fK hrowsfRowsrs (by first|omega|(simp only [List.length_take,List.length_drop,List.length_append,List.length_cons,List.length_nil,List.length_set,List.length_map];omega)|decide) (by first|omega|(simp only [List.length_take,List.length_drop,List.length_append,List.length_cons,List.length_nil,List.length_set,List.length_map];omega)|decide) (by first|omega|(simp only [List.length_nil];omega)|(dsimp only;omega)) _ rfl) (A4.pick [5,6] rfl) ?_
 refine ip' 1 0 [(14,bv (!(X0 f fR)))] ?_
 refine ie ?_
 refine zjb rfl hR ?_ ?_<;>clear hR<;>intro hR h21
 ·refine sr 9 rfl (ip' 3 6 [(17,bv (decide (y0.2.2.2.2=330)))] ?_)
  refine zid 5 1 17 22 (decide ((y0.2.1.length:Int)=0)) (fun g22 g22p=>?_) ?_
  ·refine zrl 5 0 [0] [(22,bv (decide ((y0.2.1.length:Int)=0)))] ?_
   exact zai 2 17 22 g22
  refine ip' 1 0 [(2,bv ((decide (y0.2.2.2.2=330))&&(decide ((y0.2.1.length:Int)=0))))] ?_
  subst hR
  refine ie (A7 ?_)
  exact E6 hr hD
 have hro:=B6r (by simpa using h21)
 refine A5 (nx (sh 9 [(9,[bx b20 (A6 y0.1 ⟨q3,y0.2.1.length,k5⟩ ⟨va r10.q,y0.2.2.1.length,r10.k⟩ ⟨none,0,0⟩ ⟨q15,y0.2.2.2.1.length,k16⟩) 52]),(9,[bx b1 (A0 f ⟨fQ,fR.length,fK⟩) 26])] [sl B7 (va r10.q) rs11,sl B7 q3 rs4,C3 B4 rs4 y0.2.1,C3 B4 rs11 y0.2.2.1,sl D3 q15 y0.2.2.2.1,sl C7 fQ fZ,H0 B4 fZ fR,A3z,A3w] [bx b20 (A6 y0.1 ⟨q3,y0.2.1.length,k5⟩ ⟨va r10.q,y0.2.2.1.length,r10.k⟩ ⟨none,0,0⟩ ⟨q15,y0.2.2.2.1.length,k16⟩) 52,bx b1 (A0 f ⟨fQ,fR.length,fK⟩) 26] (zml 9 0) (by kernel_rfl) rfl (by kernel_rfl) (by kernel_rfl) (by kernel_rfl) (mk [true,true] rfl) A4.refl ?_))
 refine zhp [0,1,2] 6 (zml 9 7) [(25,bv (decide (y0.2.2.2.2=0)))] ?_
 refine C2h 25 _ rfl (fun g23=>?_) (fun g23=>?_)
 ·have g23p:y0.2.2.2.2=0:=by simpa using g23
  replace hR:=bt hR g23
  refine zhl 3 [bx b20 (A6 y0.1 ⟨q3,y0.2.1.length,k5⟩ ⟨va r10.q,y0.2.2.1.length,r10.k⟩ ⟨none,0,0⟩ ⟨q15,y0.2.2.2.1.length,k16⟩) 52,bx b1 (A0 f ⟨fQ,fR.length,fK⟩) 26] (zml 9 15) rfl (M3 (us:=A6 y0.1 ⟨q3,y0.2.1.length,k5⟩ ⟨va r10.q,y0.2.2.1.length,r10.k⟩ ⟨none,0,0⟩ ⟨q15,y0.2.2.2.1.length,k16⟩) A7u rfl rfl 0 rfl rfl rfl) ?_
  refine zhl 4 [bx b20 (A6 y0.1 ⟨q3,y0.2.1.length,k5⟩ ⟨va r10.q,y0.2.2.1.length,r10.k⟩ ⟨none,0,0⟩ ⟨q15,y0.2.2.2.1.length,k16⟩) 52,bx b1 (A0 f ⟨fQ,fR.length,fK⟩) 26] (zml 9 31) rfl (M3 (us:=A0 f ⟨fQ,fR.length,fK⟩) B0a rfl rfl 1 rfl rfl rfl) ?_
  have hQ:=F5 hR;clear hR;obtain ⟨y7,hy7,hR⟩:=hQ
  refine zho 5 [bx b20 (A6 y0.1 ⟨q3,y0.2.1.length,k5⟩ ⟨va r10.q,y0.2.2.1.length,r10.k⟩ ⟨none,0,0⟩ ⟨q15,y0.2.2.2.1.length,k16⟩) 52,bx b1 (A0 f ⟨fQ,fR.length,fK⟩) 26] (zml 9 63) rfl (H2 (L2:=[bx b20 (A6 y0.1 ⟨q3,y0.2.1.length,k5⟩ ⟨va r10.q,y0.2.2.1.length,r10.k⟩ ⟨none,0,0⟩ ⟨q15,y0.2.2.2.1.length,k16⟩) 52,bx b1 (A0 f ⟨fQ,fR.length,fK⟩) 26]) (B7m f fR fQ fZ fK hrowsfRowsrs (by first|omega|(simp only [List.length_take,List.length_drop,List.length_append,List.length_cons,List.length_nil,List.length_set,List.length_map];omega)|decide) (by first|omega|(simp only [List.length_take,List.length_drop,List.length_append,List.length_cons,List.length_nil,List.length_set,List.length_map];omega)|decide) (by omega) y7 hy7) rfl rfl rfl rfl rfl (A4.pick [5,6] rfl) (List.Perm.refl _) (fun ⟨⟨⟨q24,rs25,k26⟩,hp29⟩,⟨⟨r31,rs32⟩,hp35⟩,⟨⟨q36,k37⟩,hp38⟩⟩=>(bx b20 (A6 y0.1 ⟨q3,y0.2.1.length,k5⟩ ⟨va r10.q,y0.2.2.1.length,r10.k⟩ ⟨none,0,0⟩ ⟨q15,y0.2.2.2.1.length,k16⟩) 52::bx b1 (A0 f ⟨fQ,fR.length,fK⟩) 26::(vo B7 78 r31 rs32)++([]))) (fun ⟨⟨⟨q24,rs25,k26⟩,hp29⟩,⟨⟨r31,rs32⟩,hp35⟩,⟨⟨q36,k37⟩,hp38⟩⟩=>H5 [vo B7 78 r31 rs32,[bx b20 (A6 y0.1 ⟨q3,y0.2.1.length,k5⟩ ⟨va r10.q,y0.2.2.1.length,r10.k⟩ ⟨none,0,0⟩ ⟨q15,y0.2.2.2.1.length,k16⟩) 52],[bx b1 (A0 f ⟨fQ,fR.length,fK⟩) 26]] [1,2,0] 3 rfl (by decide) (by first|rfl|simp only [List.flatten_cons,List.flatten_nil,List.append_nil,List.cons_append,List.nil_append,List.append_assoc]) [[bx b20 (A6 y0.1 ⟨q3,y0.2.1.length,k5⟩ ⟨va r10.q,y0.2.2.1.length,r10.k⟩ ⟨none,0,0⟩ ⟨q15,y0.2.2.2.1.length,k16⟩) 52],[bx b1 (A0 f ⟨fQ,fR.length,fK⟩) 26],vo B7 78 r31 rs32] rfl (by first|rfl|simp only [List.flatten_cons,List.flatten_nil,List.append_nil,List.cons_append,List.nil_append,List.append_assoc]))) (fun ⟨⟨⟨q24,rs25,k26⟩,hp29⟩,⟨⟨r31,rs32⟩,hp35⟩,⟨⟨q36,k37⟩,hp38⟩⟩=>(mc [[bx b20 (A6 y0.1 ⟨q3,y0.2.1.length,k5⟩ ⟨va r10.q,y0.2.2.1.length,r10.k⟩ ⟨none,0,0⟩ ⟨q15,y0.2.2.2.1.length,k16⟩) 52],[bx b1 (A0 f ⟨fQ,fR.length,fK⟩) 26],vo B7 78 r31 rs32] [true,true,false] rfl (by first|rfl|(simp only [List.length_set]<;>rfl)))) (fun ⟨⟨⟨q24,rs25,k26⟩,hp29⟩,⟨⟨r31,rs32⟩,hp35⟩,⟨⟨q36,k37⟩,hp38⟩⟩=>(A4.pick [4,5,6,7,8,9,10,11,12] rfl)) fun ⟨⟨⟨q24,rs25,k26⟩,hp29⟩,⟨⟨r31,rs32⟩,hp35⟩,⟨⟨q36,k37⟩,hp38⟩⟩=>?_
  obtain ⟨hr27,hc28,hl30⟩:=hp29
  try dsimp only at hp35
  obtain ⟨hk33,hw34⟩:=hp35
  obtain ⟨hc39,hl40⟩:=hp38
  have:=VOk.le hk33
  have:=VOk.cap hk33
  have:=hr27.1
  have:=hw34.1
  have:=VOk.cap hk33
  have:=VOk.le hk33
  refine D0j [bx b20 (A6 y0.1 ⟨q3,y0.2.1.length,k5⟩ ⟨va r10.q,y0.2.2.1.length,r10.k⟩ ⟨none,0,0⟩ ⟨q15,y0.2.2.2.1.length,k16⟩) 52,bx b1 (A0 f ⟨fQ,fR.length,fK⟩) 26] [] (T:=78) (c:=B7) (r:=r31) (xs:=rs32) (VOk.cast hk33 (by rw [hw34.1])) (by first|rfl|simp only [List.cons_append,List.append_assoc,List.nil_append,List.append_nil]) [bx b20 (A6 y0.1 ⟨q3,y0.2.1.length,k5⟩ ⟨va r10.q,y0.2.2.1.length,r10.k⟩ ⟨none,0,0⟩ ⟨q15,y0.2.2.2.1.length,k16⟩) 52,bx b1 (A0 f ⟨fQ,fR.length,fK⟩) 26] rfl (mk [true,true] rfl) ?_
  refine zho 6 [bx b20 (A6 y0.1 ⟨q3,y0.2.1.length,k5⟩ ⟨va r10.q,y0.2.2.1.length,r10.k⟩ ⟨none,0,0⟩ ⟨q15,y0.2.2.2.1.length,k16⟩) 52,bx b1 (A0 f ⟨fQ,fR.length,fK⟩) 26] (zml 9 127) rfl (Det.tri (B1y (C0e y0.1 y0.2.1 y0.2.2.1 y0.2.2.2.1 y7.1 y7.2.1 y7.2.2.1 y7.2.2.2 q3 rs4 k5 (va r10.q) rs11 r10.k q15 k16 q24 rs25 k26 (va r31.q) rs32 r31.k q36 k37 hr6 (by first|omega|(simp only [List.length_take,List.length_drop,List.length_append,List.length_cons,List.length_nil,List.length_set,List.length_map];omega)|decide) (by first|omega|(simp only [List.length_take,List.length_drop,List.length_append,List.length_cons,List.length_nil,List.length_set,List.length_map];omega)|decide) hw13 (by first|omega|(simp only [List.length_take,List.length_drop,List.length_append,List.length_cons,List.length_nil,List.length_set,List.length_map];omega)|decide) (by first|omega|(simp only [List.length_take,List.length_drop,List.length_append,List.length_cons,List.length_nil,List.length_set,List.length_map];omega)|decide) (by first|omega|(simp only [List.length_take,List.length_drop,List.length_append,List.length_cons,List.length_nil,List.length_set,List.length_map];omega)|decide) (by first|omega|(simp only [List.length_take,List.length_drop,List.length_append,List.length_cons,List.length_nil,List.length_set,List.length_map];omega)|decide) hr27 (by first|omega|(simp only [List.length_take,List.length_drop,List.length_append,List.length_cons,List.length_nil,List.length_set,List.length_map];omega)|decide) (by first|omega|(simp only [List.length_take,List.length_drop,List.length_append,List.length_cons,List.length_nil,List.length_set,List.length_map];omega)|decide) hw34 (by first|omega|(simp only [List.length_take,List.length_drop,List.length_append,List.length_cons,List.length_nil,List.length_set,List.length_map];omega)|decide) (by first|omega|(simp only [List.length_take,List.length_drop,List.length_append,List.length_cons,List.length_nil,List.length_set,List.length_map];omega)|decide) (by first|omega|(simp only [List.length_take,List.length_drop,List.length_append,List.length_cons,List.length_nil,List.length_set,List.length_map];omega)|decide) (by first|omega|(simp only [List.length_take,List.length_drop,List.length_append,List.length_cons,List.length_nil,List.length_set,List.length_map];omega)|decide) _ rfl) rfl rfl rfl rfl rfl (A4.pick [6,7,5,8,9,1,2,0,3,4] rfl))) (fun _=>(mk [true,true] rfl)) (fun _=>(A4.pick [5,6,7,8,9,10,11,12,13] rfl)) fun _=>?_
  refine zhp [7,8] 0 (zml 9 511) [(2,bv (A3f y0.1 y0.2.1 y0.2.2.1 y0.2.2.2.1 y7.1 y7.2.1 y7.2.2.1 y7.2.2.2))] ?_
  refine A9z (by kernel_rfl) ?_
  subst hR
  refine A7 ?_
  exact E6 hr hD
 ·have g23p:¬ (y0.2.2.2.2=0):=by simpa using g23
  replace hR:=bf hR g23
  refine zhp [3,4,5,6,7,8] 0 (zml 9 511) [(2,bv false)] ?_
  refine A9z (by kernel_rfl) ?_
  subst hR
  refine A7 ?_
  exact E6 hr hD
end Go.Proofs.YthcjfkljekdioaaGreatDoor
