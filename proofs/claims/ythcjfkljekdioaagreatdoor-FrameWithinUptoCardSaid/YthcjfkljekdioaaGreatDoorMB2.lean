import Derived.Test.YthcjfkljekdioaaGreatDoorProg
import Derived.Test.YthcjfkljekdioaaGreatDoorMA2
import Derived.Test.YthcjfkljekdioaaGreatDoorMB1
set_option linter.unusedVariables false
set_option linter.unusedSimpArgs false
set_option linter.unnecessarySimpa false
set_option maxRecDepth 100000
namespace Go.Proofs.YthcjfkljekdioaaGreatDoor
open Go Go.Fen
theorem C1y:MapTy Tryz.prog 178 3 176 (.int .i64):=⟨by kernel_rfl,by kernel_rfl,rfl⟩
theorem S6:SlTy Tryz.prog 22 69 1:=⟨by kernel_rfl,by kernel_rfl⟩
theorem A1k:Ty Tryz.prog 69 1 false:=⟨by kernel_rfl⟩
theorem C6p:Ty Tryz.prog 81 6 true:=⟨by kernel_rfl⟩
def A3o:Unit :=
 ()
theorem B4q (R:Unit) (hR:A3o=R):Con Tryz.prog 125 [] [] [] (Nat) (fun x=>.map (some x)) (fun x=>[(x,.map #[⟨iv 44,.func (.func 192) #[] #[],0⟩,⟨iv 45,.func (.func 195) #[] #[],1⟩,⟨iv 46,.func (.func 198) #[] #[],2⟩] 3)]) (fun x=>[]):=by
 refine zco Tryz.func125 [] fun X hX hr hD=>?_
 replace hR:=(A3o.eq_1 ..).symm.trans hR
 refine sr 1 rfl (ip' 1 0 [] ?_)
 refine ie (sr 6 rfl (it rfl (A4t rfl) fun b1=>?_))
 refine B7p (m:=2) (mo:=1) (es':=[⟨iv 44,.func (.func 192) #[] #[],0⟩,⟨iv 45,.func (.func 195) #[] #[],1⟩,⟨iv 46,.func (.func 198) #[] #[],2⟩]) C1y rfl 0 3 1 0 [] _ rfl (by kernel_rfl) ?_
 refine B8f (L':=[(b1,.map #[⟨iv 44,.func (.func 192) #[] #[],0⟩,⟨iv 45,.func (.func 195) #[] #[],1⟩,⟨iv 46,.func (.func 198) #[] #[],2⟩] 3)]) rfl ?_
 refine ip' 2 0 [(0,.map (some b1))] ?_
 subst hR
 refine ie (B4 ?_)
 exact zer hr hD (R1 rfl (B5 rfl)) b1 (mk [true] rfl) fn0
def R4 (p0n:Int) (p0m:Int) (p0color:Col) (p0text:List UInt8):Option (List UInt8) :=
 (Option.bind (A1q true) fun (r:Unit)=>(Option.bind (A4a (⟨44,p0n,p0m,p0color,p0text⟩:Act)) fun (r1:List UInt8)=>(some r1)))
theorem B2m (p0n:Int) (p0m:Int) (p0color:Col) (p0text:List UInt8) (p0p:Addr) (hs:p0text.length≤100000000) (R:Option (List UInt8)) (hR:R4 p0n p0m p0color p0text=R):B2n Tryz.prog 124 [pa p0p] [] [at_ p0p (F4 (⟨44,p0n,p0m,p0color,p0text⟩:Act))] V2 R (fun r=>sv r):=by
 refine A3g (n:=16) Tryz.func124 rfl (by kernel_rfl) rfl rfl [(0,pa p0p)] ⟨rfl,trivial⟩ fun X hX hr hD=>?_
 replace hR:=(R4.eq_1 ..).symm.trans hR
 refine sr 1 rfl (ip' 1 0 [] ?_)
 refine ie (sh 9 [] [at_ p0p (F4 (⟨44,p0n,p0m,p0color,p0text⟩:Act))] [] (zml 9 0) (by kernel_rfl) rfl (by kernel_rfl) (by kernel_rfl) (by kernel_rfl) (mk [] rfl) A5.refl ?_)
 refine zhp [1] 8 (zml 9 2) [(6,pa p0p)] ?_
 refine zhk 2 (zml 9 6) rfl (D6 (v:=iv 44) (us:=[iv 44]) ty3 rfl rfl (A3f (B9 0 rfl) (ws:=[iv 44]) 1 rfl) rfl) ?_
 refine zho 0 [] (zml 9 7) rfl (G9 (L2:=[]) (B4q _ rfl) rfl rfl rfl rfl rfl fn0 (List.Perm.refl _) (fun b1=>[(b1,.map #[⟨iv 44,.func (.func 192) #[] #[],0⟩,⟨iv 45,.func (.func 195) #[] #[],1⟩,⟨iv 46,.func (.func 198) #[] #[],2⟩] 3)]) (fun _=>rfl)) (fun b1=>(mk [false] rfl)) (fun b1=>A5.refl) fun b1=>?_
 refine zho 3 [] (zml 9 15) rfl (Det.tri (I9.det (A1u (v:=.func (.func 192) #[] #[]) (j:=0) C1y rfl rfl rfl 0 rfl (by kernel_rfl)))) (fun _=>(mk [false] rfl)) (fun _=>A5.refl) fun _=>?_
 refine zhp [4,5,6,7,8] 0 (zml 9 511) [(2,.func (.func 192) #[] #[]),(3,bv true)] ?_
 refine A8u (by kernel_rfl) ?_
 refine sr 2 rfl (ip' 1 1 [(11,bv true)] ?_)
 refine A1r (L2:=[(b1,.map #[⟨iv 44,.func (.func 192) #[] #[],0⟩,⟨iv 45,.func (.func 195) #[] #[],1⟩,⟨iv 46,.func (.func 198) #[] #[],2⟩] 3)]) (A3q true _ rfl) rfl rfl rfl rfl rfl rfl fn0 (List.Perm.refl _) (fun r hs2=>?_) (fun hn3=>?_)
 ·replace hR:=B1b hR hs2
  have hmu:=A0n hs2;try simp only [Bool.and_eq_true,decide_eq_true_eq] at hmu
  refine ie (sr 4 rfl (ip' 1 3 [(13,.func (.func 192) #[] #[])] ?_))
  refine ix rfl (M5 (us:=F4 (⟨44,p0n,p0m,p0color,p0text⟩:Act)) C6p rfl rfl (B9 0 rfl) rfl) ?_
  refine A1r (L2:=[(b1,.map #[⟨iv 44,.func (.func 192) #[] #[],0⟩,⟨iv 45,.func (.func 195) #[] #[],1⟩,⟨iv 46,.func (.func 198) #[] #[],2⟩] 3)]) (B1e (⟨44,p0n,p0m,p0color,p0text⟩:Act) (by first|omega|(dsimp only;omega)) _ rfl) rfl rfl rfl rfl rfl rfl fn0 (List.Perm.refl _) (fun r1 hs4=>?_) (fun hn5=>?_)
  ·replace hR:=B1b hR hs4
   refine ip' 1 0 [(1,sv r1)] ?_
   refine ie (B4 ?_)
   exact B3g rfl ⟨hr,hD⟩ (by simp [hD]) (R1 rfl (B5 rfl)) hR.symm rfl
  ·replace hR:=B0v hR hn5
   exact R6 ⟨hr,hD⟩ hR.symm
 ·replace hR:=B0v hR hn3
  exact R6 ⟨hr,hD⟩ hR.symm
def A8o (an:Int) (am:Int) (acolor:Col) (atext:List UInt8):List UInt8×Int :=
 (bif (!((A6i (R4 an am acolor atext)).2)) then (([]:List UInt8),2) else ((A6i (R4 an am acolor atext)).1,0))
theorem B6v (an:Int) (am:Int) (acolor:Col) (atext:List UInt8) (hs:atext.length≤100000000) (R:List UInt8×Int) (hR:A8o an am acolor atext=R):M9 Tryz.prog 72 [ag (F4 (⟨44,an,am,acolor,atext⟩:Act))] [] (.tuple #[sv R.1,iv R.2]):=by
 refine zco Tryz.func72 [(0,ag (F4 (⟨44,an,am,acolor,atext⟩:Act)))] fun X hX hr hD=>?_
 replace hR:=(A8o.eq_1 ..).symm.trans hR
 refine sr 3 rfl (it rfl (B4p (cs:=F4 (⟨44,an,am,acolor,atext⟩:Act)) rfl rfl rfl) fun b1=>?_)
 refine C1o 0 rfl ?_
 refine ip' 2 0 [] ?_
 refine ie (sr 7 rfl (ip' 1 6 [(7,.func (.func 124) #[] #[pa ⟨b1,0,none⟩])] ?_))
 refine zca (C6w (cap:=[pa ⟨b1,0,none⟩]) _ (B2m an am acolor atext ⟨b1,0,none⟩ (by omega) _ rfl)) A5.refl ?_
 refine ip' 5 0 [(4,sv ((A6i (R4 an am acolor atext)).1)),(5,bv ((A6i (R4 an am acolor atext)).2))] ?_
 refine ie (A4 (sr 2 rfl (ip' 2 0 [(12,bv (!((A6i (R4 an am acolor atext)).2)))] ?_)))
 refine ie ?_
 refine zjb rfl hR ?_ ?_<;>clear hR<;>intro hR h2
 ·refine sr 2 rfl (ip' 2 0 [(2,sv ([]:List UInt8)),(3,iv 2)] ?_)
  subst hR
  refine ie (B4 ?_)
  exact B4c hr hD
 refine A8 (nx (sr 3 rfl (ip' 3 0 [(2,sv ((A6i (R4 an am acolor atext)).1)),(3,iv 0)] ?_)))
 subst hR
 refine ie (B4 ?_)
 exact B4c hr hD
def M6 (an:Int) (am:Int) (acolor:Col) (atext:List UInt8):Int :=
 (H3 (A8o an am acolor atext) fun (y0:List UInt8×Int)=>(bif (!decide (y0.2=0)) then 200 else 0))
theorem A5h (an:Int) (am:Int) (acolor:Col) (atext:List UInt8) (hs:atext.length≤100000000) (R:Int) (hR:M6 an am acolor atext=R):M9 Tryz.prog 34 [ag (F4 (⟨44,an,am,acolor,atext⟩:Act))] [] (iv R):=by
 refine zco Tryz.func34 [(0,ag (F4 (⟨44,an,am,acolor,atext⟩:Act)))] fun X hX hr hD=>?_
 replace hR:=(M6.eq_1 ..).symm.trans hR
 refine sr 2 rfl (K6 2 0 [] (fun b1=>[(1,pt b1 0)]) (fun b1=>[bx b1 (F4 (⟨44,an,am,acolor,atext⟩:Act)) 81]) (fun b1=>?_))
 refine ie (sr 1 rfl (ip' 1 0 [(3,iv 0)] ?_))
 refine ie (A4 (sr 2 rfl (zrl 2 0 [0] [(7,iv 44)] ?_)))
 refine ie (A9 (sr 2 rfl (ip' 2 0 [(44,bv false)] ?_)))
 refine ie (V5 rfl (sr 2 rfl (ip' 2 0 [(59,bv false)] ?_)))
 refine ie (V5 rfl (A4 (sr 2 rfl (ip' 2 0 [(63,bv true)] ?_))))
 refine ie (I0 rfl (A8 (nx (I0 rfl (A1 6 rfl (zrl 1 5 [0] [(68,ag (F4 (⟨44,an,am,acolor,atext⟩:Act)))] ?_))))))
 have hQ:=I2 hR;clear hR;obtain ⟨y0,hy0,hR⟩:=hQ
 refine zca (B6v an am acolor atext (by first|omega|(simp only [List.length_nil];omega)) y0 hy0) fn0 ?_
 refine ip' 4 0 [(3,iv y0.2)] ?_
 refine A6 (nx (A4 (sr 2 rfl (ip' 2 0 [(73,bv (!decide (y0.2=0)))] ?_))))
 refine ie ?_
 refine zjn rfl hR ?_ ?_<;>clear hR<;>intro hR h2 h2p
 ·refine sr 1 rfl (ip' 1 0 [(2,iv 200)] ?_)
  subst hR
  refine ie (B4 ?_)
  exact F8 hr hD
 refine A8 (nx (sr 1 rfl (ip' 1 0 [(2,iv 0)] ?_)))
 subst hR
 refine ie (B4 ?_)
 exact F8 hr hD
def H5 (f:FrmC):List (List Cel)→Bool→Nat→Int
 | [],ok,t77=>(bif (!ok) then 330 else 0)
 | hd_l0::tl_l0,ok,t77=>(bif (!((ok&&(decide ((hd_l0.length:Int)=f.cols)))&&(decide ((F7 hd_l0 false)=0)))) then (bif (!((ok&&(decide ((hd_l0.length:Int)=f.cols)))&&(decide ((F7 hd_l0 false)=0)))) then 330 else 0) else H5 f tl_l0 ((ok&&(decide ((hd_l0.length:Int)=f.cols)))&&(decide ((F7 hd_l0 false)=0))) (t77+1))
def B6 (f:FrmC) (fR:List (List Cel)):Int :=
 H5 f fR (((((((((((decide ((2:Int)≤f.cols))&&(decide (f.cols≤80)))&&(decide ((1:Int)≤(fR.length:Int))))&&(decide ((fR.length:Int)≤40)))&&(decide ((0:Int)≤f.cursor.row)))&&(decide (f.cursor.row<(fR.length:Int))))&&(decide ((0:Int)≤f.cursor.col)))&&(decide (f.cursor.col<f.cols)))&&(decide ((0:Int)≤f.shape)))&&(decide (f.shape≤6)))&&(decide ((M6 0 0 Col.zero f.title)=0))) 0
theorem Z0 (f:FrmC):∀ (rows:List (List Cel)) (ok:Bool) (t:Nat),H5 f rows ok t=0→ok=true∧∀ r ∈ rows,(r.length:Int)=f.cols∧F7 r false=0
 | [],ok,t=>by cases ok<;>simp [H5]
 | r::rows,ok,t=>by
  intro h
  simp only [H5] at h
  generalize hb:((ok&&decide ((r.length:Int)=f.cols))&&decide (F7 r false=0))=b at h
  cases b with
  | false=>simp at h
  | true =>
   have h1:=Z0 f rows true (t+1) (by simpa using h)
   simp only [Bool.and_eq_true,decide_eq_true_eq] at hb
   refine ⟨hb.1.1,fun x hx=>?_⟩
   rcases List.mem_cons.1 hx with rfl | hx
   ·exact ⟨hb.1.2,hb.2⟩
   ·exact h1.2 x hx
theorem Y1 {f:FrmC} {fR:List (List Cel)} (h:B6 f fR=0) :
  2≤f.cols∧f.cols≤80∧1≤fR.length∧fR.length≤40∧∀ i,i<fR.length→((fR.getD i []).length:Int)=f.cols:=by
 unfold B6 at h
 obtain ⟨h1,h2⟩:=Z0 _ _ _ _ h
 simp only [Bool.and_eq_true,decide_eq_true_eq] at h1
 refine ⟨by omega,by omega,by omega,by omega,fun i hi=>?_⟩
 have:=(h2 _ (List.getElem_mem hi)).1
 simpa [List.getD_eq_getElem?_getD,hi] using this
theorem S9 (f:FrmC) (fR:List (List Cel)) (fQ:Option Addr) (fZ:List Slc) (fK:Nat) (hrowsfRowsrs:C5 fZ fR) (hlfRows:fR.length≤9223372036854775807) (hcfRows:fR.length≤fK) (hT:f.title.length≤100000000) (R:Int) (hR:B6 f fR=R):M9 Tryz.prog 14 [ag (A0 f ⟨fQ,fR.length,fK⟩)] [sl C3 fQ fZ,E7 B3 fZ fR,X9,Z3] (iv R):=by
 refine zco Tryz.func14 [(0,ag (A0 f ⟨fQ,fR.length,fK⟩))] fun X hX hr hD=>?_
 replace hR:=(B6.eq_1 ..).symm.trans hR
 have:=hrowsfRowsrs.1
 refine sr 2 rfl (K6 2 0 [] (fun b1=>[(1,pt b1 0)]) (fun b1=>[bx b1 (A0 f ⟨fQ,fR.length,fK⟩) 26]) (fun b1=>?_))
 refine ie (C4e (sr 21 rfl (zrl 4 17 [0] [(9,bv (decide ((2:Int)≤f.cols)))] ?_)))
 refine zid 4 13 9 13 (decide (f.cols≤80)) (fun g2 g2p=>?_) ?_
 ·refine zrl 4 0 [0] [(13,bv (decide (f.cols≤80)))] ?_
  exact zai 2 9 13 g2
 refine ip' 1 12 [(14,bv ((decide ((2:Int)≤f.cols))&&(decide (f.cols≤80))))] ?_
 refine zia 5 7 14 19 (decide ((1:Int)≤(fR.length:Int))) (fun g3=>?_) ?_
 ·have g3p:((2:Int)≤f.cols)∧(f.cols≤80):=by simpa using g3
  refine zrl 5 0 [0] [(19,bv (decide ((1:Int)≤(fR.length:Int))))] ?_
  exact zai 2 14 19 g3
 refine ip' 1 6 [(20,bv (((decide ((2:Int)≤f.cols))&&(decide (f.cols≤80)))&&(decide ((1:Int)≤(fR.length:Int)))))] ?_
 refine zia 5 1 20 25 (decide ((fR.length:Int)≤40)) (fun g4=>?_) ?_
 ·have g4p:(((2:Int)≤f.cols)∧(f.cols≤80))∧((1:Int)≤(fR.length:Int)):=by simpa using g4
  refine zrl 5 0 [0] [(25,bv (decide ((fR.length:Int)≤40)))] ?_
  exact zai 2 20 25 g4
 refine ip' 1 0 [(3,bv ((((decide ((2:Int)≤f.cols))&&(decide (f.cols≤80)))&&(decide ((1:Int)≤(fR.length:Int))))&&(decide ((fR.length:Int)≤40))))] ?_
 refine ie (sr 31 rfl (ip' 2 29 [(27,bv ((((decide ((2:Int)≤f.cols))&&(decide (f.cols≤80)))&&(decide ((1:Int)≤(fR.length:Int))))&&(decide ((fR.length:Int)≤40))))] ?_))
 refine zia 5 24 27 32 (decide ((0:Int)≤f.cursor.row)) (fun g5=>?_) ?_
 ·have g5p:((((2:Int)≤f.cols)∧(f.cols≤80))∧((1:Int)≤(fR.length:Int)))∧((fR.length:Int)≤40):=by simpa using g5
  refine zrl 5 0 [0] [(32,bv (decide ((0:Int)≤f.cursor.row)))] ?_
  exact zai 2 27 32 g5
 refine ip' 1 23 [(33,bv (((((decide ((2:Int)≤f.cols))&&(decide (f.cols≤80)))&&(decide ((1:Int)≤(fR.length:Int))))&&(decide ((fR.length:Int)≤40)))&&(decide ((0:Int)≤f.cursor.row))))] ?_
 refine zia 8 15 33 41 (decide (f.cursor.row<(fR.length:Int))) (fun g6=>?_) ?_
 ·have g6p:(((((2:Int)≤f.cols)∧(f.cols≤80))∧((1:Int)≤(fR.length:Int)))∧((fR.length:Int)≤40))∧((0:Int)≤f.cursor.row):=by simpa using g6
  refine zrl 8 0 [0,0] [(41,bv (decide (f.cursor.row<(fR.length:Int))))] ?_
  exact zai 2 33 41 g6
 refine ip' 1 14 [(42,bv ((((((decide ((2:Int)≤f.cols))&&(decide (f.cols≤80)))&&(decide ((1:Int)≤(fR.length:Int))))&&(decide ((fR.length:Int)≤40)))&&(decide ((0:Int)≤f.cursor.row)))&&(decide (f.cursor.row<(fR.length:Int)))))] ?_
 refine zia 5 9 42 47 (decide ((0:Int)≤f.cursor.col)) (fun g7=>?_) ?_
 ·have g7p:((((((2:Int)≤f.cols)∧(f.cols≤80))∧((1:Int)≤(fR.length:Int)))∧((fR.length:Int)≤40))∧((0:Int)≤f.cursor.row))∧(f.cursor.row<(fR.length:Int)):=by simpa using g7
  refine zrl 5 0 [0] [(47,bv (decide ((0:Int)≤f.cursor.col)))] ?_
  exact zai 2 42 47 g7
 refine ip' 1 8 [(48,bv (((((((decide ((2:Int)≤f.cols))&&(decide (f.cols≤80)))&&(decide ((1:Int)≤(fR.length:Int))))&&(decide ((fR.length:Int)≤40)))&&(decide ((0:Int)≤f.cursor.row)))&&(decide (f.cursor.row<(fR.length:Int))))&&(decide ((0:Int)≤f.cursor.col))))] ?_
 refine zia 7 1 48 55 (decide (f.cursor.col<f.cols)) (fun g8=>?_) ?_
 ·have g8p:(((((((2:Int)≤f.cols)∧(f.cols≤80))∧((1:Int)≤(fR.length:Int)))∧((fR.length:Int)≤40))∧((0:Int)≤f.cursor.row))∧(f.cursor.row<(fR.length:Int)))∧((0:Int)≤f.cursor.col):=by simpa using g8
  refine zrl 7 0 [0,0] [(55,bv (decide (f.cursor.col<f.cols)))] ?_
  exact zai 2 48 55 g8
 refine ip' 1 0 [(3,bv ((((((((decide ((2:Int)≤f.cols))&&(decide (f.cols≤80)))&&(decide ((1:Int)≤(fR.length:Int))))&&(decide ((fR.length:Int)≤40)))&&(decide ((0:Int)≤f.cursor.row)))&&(decide (f.cursor.row<(fR.length:Int))))&&(decide ((0:Int)≤f.cursor.col)))&&(decide (f.cursor.col<f.cols))))] ?_
 refine ie (sr 19 rfl (ip' 2 17 [(57,bv ((((((((decide ((2:Int)≤f.cols))&&(decide (f.cols≤80)))&&(decide ((1:Int)≤(fR.length:Int))))&&(decide ((fR.length:Int)≤40)))&&(decide ((0:Int)≤f.cursor.row)))&&(decide (f.cursor.row<(fR.length:Int))))&&(decide ((0:Int)≤f.cursor.col)))&&(decide (f.cursor.col<f.cols))))] ?_))
 refine zia 4 13 57 61 (decide ((0:Int)≤f.shape)) (fun g9=>?_) ?_
 ·have g9p:((((((((2:Int)≤f.cols)∧(f.cols≤80))∧((1:Int)≤(fR.length:Int)))∧((fR.length:Int)≤40))∧((0:Int)≤f.cursor.row))∧(f.cursor.row<(fR.length:Int)))∧((0:Int)≤f.cursor.col))∧(f.cursor.col<f.cols):=by simpa using g9
  refine zrl 4 0 [0] [(61,bv (decide ((0:Int)≤f.shape)))] ?_
  exact zai 2 57 61 g9
 refine ip' 1 12 [(62,bv (((((((((decide ((2:Int)≤f.cols))&&(decide (f.cols≤80)))&&(decide ((1:Int)≤(fR.length:Int))))&&(decide ((fR.length:Int)≤40)))&&(decide ((0:Int)≤f.cursor.row)))&&(decide (f.cursor.row<(fR.length:Int))))&&(decide ((0:Int)≤f.cursor.col)))&&(decide (f.cursor.col<f.cols)))&&(decide ((0:Int)≤f.shape))))] ?_
 refine zia 4 8 62 66 (decide (f.shape≤6)) (fun g10=>?_) ?_
 ·have g10p:(((((((((2:Int)≤f.cols)∧(f.cols≤80))∧((1:Int)≤(fR.length:Int)))∧((fR.length:Int)≤40))∧((0:Int)≤f.cursor.row))∧(f.cursor.row<(fR.length:Int)))∧((0:Int)≤f.cursor.col))∧(f.cursor.col<f.cols))∧((0:Int)≤f.shape):=by simpa using g10
  refine zrl 4 0 [0] [(66,bv (decide (f.shape≤6)))] ?_
  exact zai 2 62 66 g10
 refine ip' 1 7 [(67,bv ((((((((((decide ((2:Int)≤f.cols))&&(decide (f.cols≤80)))&&(decide ((1:Int)≤(fR.length:Int))))&&(decide ((fR.length:Int)≤40)))&&(decide ((0:Int)≤f.cursor.row)))&&(decide (f.cursor.row<(fR.length:Int))))&&(decide ((0:Int)≤f.cursor.col)))&&(decide (f.cursor.col<f.cols)))&&(decide ((0:Int)≤f.shape)))&&(decide (f.shape≤6))))] ?_
 refine zia 6 1 67 73 (decide ((M6 0 0 Col.zero f.title)=0)) (fun g11=>?_) ?_
 ·have g11p:((((((((((2:Int)≤f.cols)∧(f.cols≤80))∧((1:Int)≤(fR.length:Int)))∧((fR.length:Int)≤40))∧((0:Int)≤f.cursor.row))∧(f.cursor.row<(fR.length:Int)))∧((0:Int)≤f.cursor.col))∧(f.cursor.col<f.cols))∧((0:Int)≤f.shape))∧(f.shape≤6):=by simpa using g11
  refine zrl 3 3 [0] [(70,ag (F4 ({Act.zero with kind:=44,text:=f.title})))] ?_
  refine zca (A5h 0 0 Col.zero f.title (by first|omega|(simp only [List.length_nil];omega)) _ rfl) fn0 ?_
  refine ip' 2 0 [(73,bv (decide ((M6 0 0 Col.zero f.title)=0)))] ?_
  exact zai 4 67 73 g11
 refine ip' 1 0 [(3,bv (((((((((((decide ((2:Int)≤f.cols))&&(decide (f.cols≤80)))&&(decide ((1:Int)≤(fR.length:Int))))&&(decide ((fR.length:Int)≤40)))&&(decide ((0:Int)≤f.cursor.row)))&&(decide (f.cursor.row<(fR.length:Int))))&&(decide ((0:Int)≤f.cursor.col)))&&(decide (f.cursor.col<f.cols)))&&(decide ((0:Int)≤f.shape)))&&(decide (f.shape≤6)))&&(decide ((M6 0 0 Col.zero f.title)=0))))] ?_
 refine ie (A4 (C3j (nx (A4 (sr 4 rfl (zrl 4 0 [0] [(75,.slice fQ fR.length fK),(76,iv (fR.length:Int)),(77,iv 0)] ?_))))))
 refine ie (A9 (C3s (fun (ok:Bool) (t77:Nat)=>(t77≤fR.length∧H5 f (fR.drop t77) ok t77=R,[(1,pt b1 0),(3,bv ok),(75,.slice fQ fR.length fK),(76,iv (fR.length:Int)),(77,iv (t77:Int))],[bx b1 (A0 f ⟨fQ,fR.length,fK⟩) 26],[sl C3 fQ fZ,E7 B3 fZ fR,X9,Z3],fR.length - t77)) (((((((((((decide ((2:Int)≤f.cols))&&(decide (f.cols≤80)))&&(decide ((1:Int)≤(fR.length:Int))))&&(decide ((fR.length:Int)≤40)))&&(decide ((0:Int)≤f.cursor.row)))&&(decide (f.cursor.row<(fR.length:Int))))&&(decide ((0:Int)≤f.cursor.col)))&&(decide (f.cursor.col<f.cols)))&&(decide ((0:Int)≤f.shape)))&&(decide (f.shape≤6)))&&(decide ((M6 0 0 Col.zero f.title)=0))) 0 ⟨(by omega),hR⟩ (mk [true] rfl) A5.refl ?_))
 rintro ok t77 ⟨hm12,hR⟩
 refine sr 1 rfl (ip' 1 0 [(78,bv (decide ((t77:Int)<(fR.length:Int))))] ?_)
 refine ie (A4 (R3 rfl (fun h13=>?_) (fun h13=>?_)))
 ·have h13p:(t77:Int)<(fR.length:Int):=by simpa using h13
  rw [R9 [] (show t77<fR.length by omega)] at hR;replace hR:=(H5.eq_2 ..).symm.trans hR
  refine A8 (nx (A4 (A9 (sr 3 rfl (I4 0 rfl (by have:=hrowsfRowsrs.1;omega) fun a14 hq15=>?_)))))
  refine G5 (K7 (k:=t77) (d:=(⟨none,0,0⟩:Slc)) hrowsfRowsrs 1 rfl (by have:=hrowsfRowsrs.1;omega)) ?_
  have:=K8 hrowsfRowsrs (k:=t77) (d:=(⟨none,0,0⟩:Slc)) (by have:=hrowsfRowsrs.1;omega)
  refine ix rfl (F1 S6 rfl rfl hq15 rfl t77 rfl (by omega)) ?_
  refine ix rfl (F5 (D6 (v:=.slice ((fZ.getD t77 (⟨none,0,0⟩:Slc)).q) ((fZ.getD t77 (⟨none,0,0⟩:Slc)).n) ((fZ.getD t77 (⟨none,0,0⟩:Slc)).k)) (us:=[.slice ((fZ.getD t77 (⟨none,0,0⟩:Slc)).q) ((fZ.getD t77 (⟨none,0,0⟩:Slc)).n) ((fZ.getD t77 (⟨none,0,0⟩:Slc)).k)]) A1k rfl rfl (G6 (c:=C3) (sz:=1) hq15 (fun _=>rfl) 1 rfl (gd (⟨none,0,0⟩:Slc) (by have:=hrowsfRowsrs.1;omega))) rfl) (M3 hrowsfRowsrs (by have:=hrowsfRowsrs.1;omega))) ?_
  refine ip' 1 0 [(5,.slice ((fZ.getD t77 (⟨none,0,0⟩:Slc)).q) ((fR.getD t77 []).length) ((fZ.getD t77 (⟨none,0,0⟩:Slc)).k))] ?_
  refine ie (sr 15 rfl (ip' 2 13 [(82,bv ok)] ?_))
  refine zia 6 7 82 88 (decide (((fR.getD t77 []).length:Int)=f.cols)) (fun g16=>?_) ?_
  ·refine zrl 6 0 [0] [(88,bv (decide (((fR.getD t77 []).length:Int)=f.cols)))] ?_
   exact zai 2 82 88 g16
  refine ip' 1 6 [(89,bv (ok&&(decide (((fR.getD t77 []).length:Int)=f.cols))))] ?_
  refine zia 5 1 89 94 (decide ((F7 (fR.getD t77 []) false)=0)) (fun g17=>?_) ?_
  ·have g17p:=g17;try simp only [Bool.and_eq_true,Bool.or_eq_true,Bool.and_eq_false_iff,Bool.or_eq_false_iff,Bool.not_eq_true',Bool.not_eq_false',decide_eq_true_eq,decide_eq_false_iff_not] at g17p
   refine zrl 2 3 [] [(91,ag [.slice ((fZ.getD t77 (⟨none,0,0⟩:Slc)).q) ((fR.getD t77 []).length) ((fZ.getD t77 (⟨none,0,0⟩:Slc)).k),bv false])] ?_
   refine zca (A9n (fR.getD t77 []) false ((fZ.getD t77 (⟨none,0,0⟩:Slc)).q) ((fZ.getD t77 (⟨none,0,0⟩:Slc)).k) (by first|omega|(simp only [List.length_take,List.length_drop,List.length_append,List.length_cons,List.length_nil,List.length_set,List.length_map,A3o];omega)|decide) (by first|omega|(simp only [List.length_take,List.length_drop,List.length_append,List.length_cons,List.length_nil,List.length_set,List.length_map,A3o];omega)|decide) _ rfl) (A5.pick [0,3,4] rfl) ?_
   refine ip' 2 0 [(94,bv (decide ((F7 (fR.getD t77 []) false)=0)))] ?_
   exact zai 4 89 94 g17
  refine ip' 1 0 [(3,bv ((ok&&(decide (((fR.getD t77 []).length:Int)=f.cols)))&&(decide ((F7 (fR.getD t77 []) false)=0))))] ?_
  refine ie (sr 2 rfl (ip' 2 0 [(96,bv (!((ok&&(decide (((fR.getD t77 []).length:Int)=f.cols)))&&(decide ((F7 (fR.getD t77 []) false)=0)))))] ?_))
  refine ie ?_
  refine zjb rfl hR ?_ ?_<;>clear hR<;>intro hR h18
  ·have h18p:=h18;try simp only [Bool.and_eq_true,Bool.or_eq_true,Bool.and_eq_false_iff,Bool.or_eq_false_iff,Bool.not_eq_true',Bool.not_eq_false',decide_eq_true_eq,decide_eq_false_iff_not] at h18p
   refine F3 (nx (A4 (sr 2 rfl (ip' 2 0 [(99,bv (!((ok&&(decide (((fR.getD t77 []).length:Int)=f.cols)))&&(decide ((F7 (fR.getD t77 []) false)=0)))))] ?_))))
   refine ie ?_
   refine zjb rfl hR ?_ ?_<;>clear hR<;>intro hR h19
   ·have h19p:=h19;try simp only [Bool.and_eq_true,Bool.or_eq_true,Bool.and_eq_false_iff,Bool.or_eq_false_iff,Bool.not_eq_true',Bool.not_eq_false',decide_eq_true_eq,decide_eq_false_iff_not] at h19p
    refine sr 1 rfl (ip' 1 0 [(2,iv 330)] ?_)
    subst hR
    refine ie (B4 ?_)
    exact F8 hr hD
   have h19p:=h19;try simp only [Bool.and_eq_true,Bool.or_eq_true,Bool.and_eq_false_iff,Bool.or_eq_false_iff,Bool.not_eq_true',Bool.not_eq_false',decide_eq_true_eq,decide_eq_false_iff_not] at h19p
   refine A8 (nx (sr 1 rfl (ip' 1 0 [(2,iv 0)] ?_)))
   subst hR
   refine ie (B4 ?_)
   exact F8 hr hD
  have h18p:=h18;try simp only [Bool.and_eq_true,Bool.or_eq_true,Bool.and_eq_false_iff,Bool.or_eq_false_iff,Bool.not_eq_true',Bool.not_eq_false',decide_eq_true_eq,decide_eq_false_iff_not] at h18p
  refine A8 (nx (A1 2 rfl (ix rfl (B0 rfl rfl rfl rfl (by omega)) ?_)))
  refine ip' 1 0 [(77,iv ((t77:Int)+1))] ?_
  refine A6 ?_
  exact C3x (z1:=ok) (z2:=t77) ((ok&&(decide (((fR.getD t77 []).length:Int)=f.cols)))&&(decide ((F7 (fR.getD t77 []) false)=0))) (t77+1) ⟨(by omega),hR⟩ (by (try dsimp only);omega) (mk [true] rfl) (A5.pick [1,2,3,4] rfl)
 have h13p:¬ ((t77:Int)<(fR.length:Int)):=by simpa using h13
 rw [R8 h13p] at hR;replace hR:=(H5.eq_1 ..).symm.trans hR
 refine F3 (nx (A4 (sr 2 rfl (ip' 2 0 [(99,bv (!ok))] ?_))))
 refine ie ?_
 refine zjb rfl hR ?_ ?_<;>clear hR<;>intro hR h20
 ·refine sr 1 rfl (ip' 1 0 [(2,iv 330)] ?_)
  subst hR
  refine ie (B4 ?_)
  exact F8 hr hD
 refine A8 (nx (sr 1 rfl (ip' 1 0 [(2,iv 0)] ?_)))
 subst hR
 refine ie (B4 ?_)
 exact F8 hr hD
end Go.Proofs.YthcjfkljekdioaaGreatDoor
set_option linter.unusedVariables false
set_option linter.unusedSimpArgs false
set_option linter.unnecessarySimpa false
set_option maxRecDepth 100000
namespace Go.Proofs.YthcjfkljekdioaaGreatDoor
open Go Go.Fen
theorem C4q:EqT Tryz.prog 24 G0:=EqT.of 20 rfl (by kernel_rfl) (by kernel_rfl) (fun _ _=>by kernel_rfl) G0.inj
def H4 (s2:List Cel):List Cel→Nat→Bool
 | [],t13=>true
 | hd_l0::tl_l0,t13=>(bif (!(decide (hd_l0=(s2.getD t13 Cel.zero)))) then false else H4 s2 tl_l0 (t13+1))
def K4 (s1:List Cel) (s2:List Cel):Bool :=
 (bif (!decide ((s1.length:Int)=(s2.length:Int))) then false else H4 s2 s1 0)
theorem Y4 (s1:List Cel) (s2:List Cel) (s1q:Option Addr) (s1k:Nat) (s2q:Option Addr) (s2k:Nat) (hls1:s1.length≤9223372036854775807) (hcs1:s1.length≤s1k) (hls2:s2.length≤9223372036854775807) (hcs2:s2.length≤s2k) (R:Bool) (hR:K4 s1 s2=R):M9 Tryz.prog 37 [.slice s1q s1.length s1k,.slice s2q s2.length s2k] [sl B3 s1q s1,sl B3 s2q s2] (bv R):=by
 refine zco Tryz.func37 [(0,.slice s1q s1.length s1k),(1,.slice s2q s2.length s2k)] fun X hX hr hD=>?_
 replace hR:=(K4.eq_1 ..).symm.trans hR
 refine sr 1 rfl (ip' 1 0 [] ?_)
 refine ie (A4 (sr 5 rfl (ip' 5 0 [(10,bv (!decide ((s1.length:Int)=(s2.length:Int))))] ?_)))
 refine ie ?_
 refine zjn rfl hR ?_ ?_<;>clear hR<;>intro hR h1 h1p
 ·refine sr 1 rfl (ip' 1 0 [(4,bv false)] ?_)
  subst hR
  refine ie (B4 ?_)
  exact F8 hr hD
 refine A8 (nx (A4 (sr 3 rfl (ip' 3 0 [(12,iv (s1.length:Int)),(13,iv 0)] ?_))))
 refine ie (A9 (B2o (fun (t13:Nat)=>(t13≤s1.length∧H4 s2 (s1.drop t13) t13=R,[(0,.slice s1q s1.length s1k),(1,.slice s2q s2.length s2k),(12,iv (s1.length:Int)),(13,iv (t13:Int))],[],[sl B3 s1q s1,sl B3 s2q s2],s1.length - t13)) 0 ⟨(by omega),hR⟩ (mk [] rfl) A5.refl ?_))
 rintro t13 ⟨hm2,hR⟩
 refine sr 1 rfl (ip' 1 0 [(14,bv (decide ((t13:Int)<(s1.length:Int))))] ?_)
 refine ie (A4 (R3 rfl (fun h3=>?_) (fun h3=>?_)))
 ·have h3p:(t13:Int)<(s1.length:Int):=by simpa using h3
  rw [R9 Cel.zero (show t13<s1.length by omega)] at hR;replace hR:=(H4.eq_2 ..).symm.trans hR
  refine A8 (nx (A4 (A9 (sr 2 rfl (ip' 2 0 [(5,iv (t13:Int))] ?_)))))
  refine ie (sd 9 rfl (by kernel_rfl) rfl ?_)
  refine dp' 2 7 [(16,.slice s1q s1.length s1k),(17,iv (t13:Int))] ?_
  refine A2r 0 rfl (by omega) fun a4 hq5=>?_
  refine dd rfl (F1 Q8 rfl rfl hq5 rfl t13 rfl (by omega)) ?_
  refine dd rfl (M5 (us:=B3 (s1.getD t13 Cel.zero)) B1d rfl rfl (G6 (c:=B3) (sz:=12) hq5 (fun _=>rfl) 0 rfl (gd Cel.zero (by omega))) rfl) ?_
  refine dp' 2 3 [(20,.slice s2q s2.length s2k),(21,iv (t13:Int))] ?_
  refine A2r 1 rfl (by omega) fun a6 hq7=>?_
  refine dd rfl (F1 Q8 rfl rfl hq7 rfl t13 rfl (by omega)) ?_
  refine dd rfl (M5 (us:=B3 (s2.getD t13 Cel.zero)) B1d rfl rfl (G6 (c:=B3) (sz:=12) hq7 (fun _=>rfl) 1 rfl (gd Cel.zero (by omega))) rfl) ?_
  refine dd rfl (A1l (a:=(s1.getD t13 Cel.zero)) (b:=(s2.getD t13 Cel.zero)) B9s rfl rfl rfl) ?_
  refine de ?_
  refine zjn rfl hR ?_ ?_<;>clear hR<;>intro hR h8 h8p
  ·refine sr 1 rfl (ip' 1 0 [(4,bv false)] ?_)
   subst hR
   refine ie (B4 ?_)
   exact F8 hr hD
  refine A8 (nx (A1 2 rfl (ix rfl (B0 rfl rfl rfl rfl (by omega)) ?_)))
  refine ip' 1 0 [(13,iv ((t13:Int)+1))] ?_
  refine A6 ?_
  exact B2u (z1:=t13) (t13+1) ⟨(by omega),hR⟩ (by (try dsimp only);omega) (mk [] rfl) A5.refl
 have h3p:¬ ((t13:Int)<(s1.length:Int)):=by simpa using h3
 rw [R8 h3p] at hR;replace hR:=(H4.eq_1 ..).symm.trans hR
 refine F3 (nx (sr 1 rfl (ip' 1 0 [(4,bv true)] ?_)))
 subst hR
 refine ie (B4 ?_)
 exact F8 hr hD
def D5 (s2:List (List Cel)):List (List Cel)→Nat→Bool
 | [],t17=>true
 | hd_l0::tl_l0,t17=>(bif (!(K4 hd_l0 (s2.getD t17 []))) then false else D5 s2 tl_l0 (t17+1))
def C7 (s1:List (List Cel)) (s2:List (List Cel)):Bool :=
 (bif (!decide ((s1.length:Int)=(s2.length:Int))) then false else D5 s2 s1 0)
theorem N9 (s1:List (List Cel)) (s2:List (List Cel)) (s1q:Option Addr) (s1rs:List Slc) (s1k:Nat) (s2q:Option Addr) (s2rs:List Slc) (s2k:Nat) (hrowss1rs:C5 s1rs s1) (hls1:s1.length≤9223372036854775807) (hcs1:s1.length≤s1k) (hrowss2rs:C5 s2rs s2) (hls2:s2.length≤9223372036854775807) (hcs2:s2.length≤s2k) (R:Bool) (hR:C7 s1 s2=R):M9 Tryz.prog 36 [.slice s1q s1.length s1k,.slice s2q s2.length s2k,.func (.func 37) #[] #[]] [sl C3 s1q s1rs,E7 B3 s1rs s1,sl C3 s2q s2rs,E7 B3 s2rs s2] (bv R):=by
 refine zco Tryz.func36 [(0,.slice s1q s1.length s1k),(1,.slice s2q s2.length s2k),(2,.func (.func 37) #[] #[])] fun X hX hr hD=>?_
 replace hR:=(C7.eq_1 ..).symm.trans hR
 have:=hrowss1rs.1
 have:=hrowss2rs.1
 refine sr 1 rfl (ip' 1 0 [] ?_)
 refine ie (A4 (sr 5 rfl (ip' 5 0 [(14,bv (!decide ((s1.length:Int)=(s2.length:Int))))] ?_)))
 refine ie ?_
 refine zjn rfl hR ?_ ?_<;>clear hR<;>intro hR h1 h1p
 ·refine sr 1 rfl (ip' 1 0 [(6,bv false)] ?_)
  subst hR
  refine ie (B4 ?_)
  exact F8 hr hD
 refine A8 (nx (A4 (sr 3 rfl (ip' 3 0 [(15,.slice s1q s1.length s1k),(16,iv (s1.length:Int)),(17,iv 0)] ?_))))
 refine ie (A9 (B2o (fun (t17:Nat)=>(t17≤s1.length∧D5 s2 (s1.drop t17) t17=R,[(1,.slice s2q s2.length s2k),(2,.func (.func 37) #[] #[]),(15,.slice s1q s1.length s1k),(16,iv (s1.length:Int)),(17,iv (t17:Int))],[],[sl C3 s1q s1rs,E7 B3 s1rs s1,sl C3 s2q s2rs,E7 B3 s2rs s2],s1.length - t17)) 0 ⟨(by omega),hR⟩ (mk [] rfl) A5.refl ?_))
 rintro t17 ⟨hm2,hR⟩
 refine sr 1 rfl (ip' 1 0 [(18,bv (decide ((t17:Int)<(s1.length:Int))))] ?_)
 refine ie (A4 (R3 rfl (fun h3=>?_) (fun h3=>?_)))
 ·have h3p:(t17:Int)<(s1.length:Int):=by simpa using h3
  rw [R9 [] (show t17<s1.length by omega)] at hR;replace hR:=(D5.eq_2 ..).symm.trans hR
  refine A8 (nx (A4 (A9 (sr 5 rfl (ip' 1 4 [(19,iv (t17:Int))] ?_)))))
  refine I4 0 rfl (by have:=hrowss1rs.1;omega) fun a4 hq5=>?_
  refine G5 (K7 (k:=t17) (d:=(⟨none,0,0⟩:Slc)) hrowss1rs 1 rfl (by have:=hrowss1rs.1;omega)) ?_
  have:=K8 hrowss1rs (k:=t17) (d:=(⟨none,0,0⟩:Slc)) (by have:=hrowss1rs.1;omega)
  refine ix rfl (F1 S6 rfl rfl hq5 rfl t17 rfl (by omega)) ?_
  refine ix rfl (F5 (D6 (v:=.slice ((s1rs.getD t17 (⟨none,0,0⟩:Slc)).q) ((s1rs.getD t17 (⟨none,0,0⟩:Slc)).n) ((s1rs.getD t17 (⟨none,0,0⟩:Slc)).k)) (us:=[.slice ((s1rs.getD t17 (⟨none,0,0⟩:Slc)).q) ((s1rs.getD t17 (⟨none,0,0⟩:Slc)).n) ((s1rs.getD t17 (⟨none,0,0⟩:Slc)).k)]) A1k rfl rfl (G6 (c:=C3) (sz:=1) hq5 (fun _=>rfl) 1 rfl (gd (⟨none,0,0⟩:Slc) (by have:=hrowss1rs.1;omega))) rfl) (M3 hrowss1rs (by have:=hrowss1rs.1;omega))) ?_
  refine ip' 2 0 [(7,iv (t17:Int)),(8,.slice ((s1rs.getD t17 (⟨none,0,0⟩:Slc)).q) ((s1.getD t17 []).length) ((s1rs.getD t17 (⟨none,0,0⟩:Slc)).k))] ?_
  refine ie (sr 5 rfl (ip' 2 3 [(22,.slice s2q s2.length s2k),(23,iv (t17:Int))] ?_))
  refine I4 3 rfl (by have:=hrowss2rs.1;omega) fun a6 hq7=>?_
  refine G5 (K7 (k:=t17) (d:=(⟨none,0,0⟩:Slc)) hrowss2rs 4 rfl (by have:=hrowss2rs.1;omega)) ?_
  have:=K8 hrowss2rs (k:=t17) (d:=(⟨none,0,0⟩:Slc)) (by have:=hrowss2rs.1;omega)
  refine ix rfl (F1 S6 rfl rfl hq7 rfl t17 rfl (by omega)) ?_
  refine ix rfl (F5 (D6 (v:=.slice ((s2rs.getD t17 (⟨none,0,0⟩:Slc)).q) ((s2rs.getD t17 (⟨none,0,0⟩:Slc)).n) ((s2rs.getD t17 (⟨none,0,0⟩:Slc)).k)) (us:=[.slice ((s2rs.getD t17 (⟨none,0,0⟩:Slc)).q) ((s2rs.getD t17 (⟨none,0,0⟩:Slc)).n) ((s2rs.getD t17 (⟨none,0,0⟩:Slc)).k)]) A1k rfl rfl (G6 (c:=C3) (sz:=1) hq7 (fun _=>rfl) 4 rfl (gd (⟨none,0,0⟩:Slc) (by have:=hrowss2rs.1;omega))) rfl) (M3 hrowss2rs (by have:=hrowss2rs.1;omega))) ?_
  refine ip' 1 0 [(9,.slice ((s2rs.getD t17 (⟨none,0,0⟩:Slc)).q) ((s2.getD t17 []).length) ((s2rs.getD t17 (⟨none,0,0⟩:Slc)).k))] ?_
  refine ie (sr 5 rfl (ip' 3 2 [(26,.func (.func 37) #[] #[]),(27,.slice ((s1rs.getD t17 (⟨none,0,0⟩:Slc)).q) ((s1.getD t17 []).length) ((s1rs.getD t17 (⟨none,0,0⟩:Slc)).k)),(28,.slice ((s2rs.getD t17 (⟨none,0,0⟩:Slc)).q) ((s2.getD t17 []).length) ((s2rs.getD t17 (⟨none,0,0⟩:Slc)).k))] ?_))
  refine zca (Y4 (s1.getD t17 []) (s2.getD t17 []) ((s1rs.getD t17 (⟨none,0,0⟩:Slc)).q) ((s1rs.getD t17 (⟨none,0,0⟩:Slc)).k) ((s2rs.getD t17 (⟨none,0,0⟩:Slc)).q) ((s2rs.getD t17 (⟨none,0,0⟩:Slc)).k) (by first|omega|(simp only [List.length_take,List.length_drop,List.length_append,List.length_cons,List.length_nil,List.length_set,List.length_map];omega)|decide) (by first|omega|(simp only [List.length_take,List.length_drop,List.length_append,List.length_cons,List.length_nil,List.length_set,List.length_map];omega)|decide) (by first|omega|(simp only [List.length_take,List.length_drop,List.length_append,List.length_cons,List.length_nil,List.length_set,List.length_map];omega)|decide) (by first|omega|(simp only [List.length_take,List.length_drop,List.length_append,List.length_cons,List.length_nil,List.length_set,List.length_map];omega)|decide) _ rfl) (A5.pick [1,0] rfl) ?_
  refine ip' 1 0 [(30,bv (!(K4 (s1.getD t17 []) (s2.getD t17 []))))] ?_
  refine ie ?_
  refine zjb rfl hR ?_ ?_<;>clear hR<;>intro hR h8
  ·refine sr 1 rfl (ip' 1 0 [(6,bv false)] ?_)
   subst hR
   refine ie (B4 ?_)
   exact F8 hr hD
  refine A8 (nx (A1 2 rfl (ix rfl (B0 rfl rfl rfl rfl (by omega)) ?_)))
  refine ip' 1 0 [(17,iv ((t17:Int)+1))] ?_
  refine A6 ?_
  exact B2u (z1:=t17) (t17+1) ⟨(by omega),hR⟩ (by (try dsimp only);omega) (mk [] rfl) (A5.pick [2,3,4,5] rfl)
 have h3p:¬ ((t17:Int)<(s1.length:Int)):=by simpa using h3
 rw [R8 h3p] at hR;replace hR:=(D5.eq_1 ..).symm.trans hR
 refine F3 (nx (sr 1 rfl (ip' 1 0 [(6,bv true)] ?_)))
 subst hR
 refine ie (B4 ?_)
 exact F8 hr hD
def W5 (a:FrmC) (aR:List (List Cel)) (b:FrmC) (bR:List (List Cel)):Bool :=
 ((((((decide (a.cols=b.cols))&&(decide (a.cursor=b.cursor)))&&(a.visible == b.visible))&&(decide (a.shape=b.shape)))&&(decide (a.title=b.title)))&&(C7 aR bR))
theorem B5n (a:FrmC) (aR:List (List Cel)) (b:FrmC) (bR:List (List Cel)) (aQ:Option Addr) (aZ:List Slc) (aK:Nat) (bQ:Option Addr) (bZ:List Slc) (bK:Nat) (hrowsaRowsrs:C5 aZ aR) (hlaRows:aR.length≤9223372036854775807) (hcaRows:aR.length≤aK) (hrowsbRowsrs:C5 bZ bR) (hlbRows:bR.length≤9223372036854775807) (hcbRows:bR.length≤bK) (R:Bool) (hR:W5 a aR b bR=R):M9 Tryz.prog 15 [ag (A0 a ⟨aQ,aR.length,aK⟩),ag (A0 b ⟨bQ,bR.length,bK⟩)] [sl C3 aQ aZ,E7 B3 aZ aR,sl C3 bQ bZ,E7 B3 bZ bR] (bv R):=by
 refine zco Tryz.func15 [(0,ag (A0 a ⟨aQ,aR.length,aK⟩)),(1,ag (A0 b ⟨bQ,bR.length,bK⟩))] fun X hX hr hD=>?_
 replace hR:=(W5.eq_1 ..).symm.trans hR
 have:=hrowsaRowsrs.1
 have:=hrowsbRowsrs.1
 refine sr 3 rfl (B1l 3 0 [] (fun b1 b2=>[(2,pt b1 0),(3,pt b2 0)]) (fun b1 b2=>[bx b2 (A0 b ⟨bQ,bR.length,bK⟩) 26,bx b1 (A0 a ⟨aQ,aR.length,aK⟩) 26]) (fun b1 b2=>?_))
 refine ie (sr 34 rfl (zrl 6 28 [1,0] [(11,bv (decide (a.cols=b.cols)))] ?_))
 refine zid 6 22 11 17 (decide (a.cursor=b.cursor)) (fun g3 g3p=>?_) ?_
 ·refine zrl 4 2 [1,0] [(13,ag (G0 a.cursor)),(15,ag (G0 b.cursor))] ?_
  refine ix rfl (B4m (a:=a.cursor) (b:=b.cursor) C4q rfl rfl rfl) ?_
  refine ip' 1 0 [(17,bv (decide (a.cursor=b.cursor)))] ?_
  exact zai 5 11 17 g3
 refine ip' 1 21 [(18,bv ((decide (a.cols=b.cols))&&(decide (a.cursor=b.cursor))))] ?_
 refine zia 6 15 18 24 (a.visible == b.visible) (fun g4=>?_) ?_
 ·have g4p:(a.cols=b.cols)∧(a.cursor=b.cursor):=by simpa using g4
  refine zrl 4 2 [1,0] [(20,bv a.visible),(22,bv b.visible)] ?_
  refine ix rfl (B9m Tryz.underlying4 rfl rfl rfl) ?_
  refine ip' 1 0 [(24,bv (a.visible == b.visible))] ?_
  exact zai 5 18 24 g4
 refine ip' 1 14 [(25,bv (((decide (a.cols=b.cols))&&(decide (a.cursor=b.cursor)))&&(a.visible == b.visible)))] ?_
 refine zia 6 8 25 31 (decide (a.shape=b.shape)) (fun g5=>?_) ?_
 ·have g5p:=g5;try simp only [Bool.and_eq_true,Bool.or_eq_true,Bool.and_eq_false_iff,Bool.or_eq_false_iff,Bool.not_eq_true',Bool.not_eq_false',decide_eq_true_eq,decide_eq_false_iff_not] at g5p
  refine zrl 6 0 [1,0] [(31,bv (decide (a.shape=b.shape)))] ?_
  exact zai 2 25 31 g5
 refine ip' 1 7 [(32,bv ((((decide (a.cols=b.cols))&&(decide (a.cursor=b.cursor)))&&(a.visible == b.visible))&&(decide (a.shape=b.shape))))] ?_
 refine zia 6 1 32 38 (decide (a.title=b.title)) (fun g6=>?_) ?_
 ·have g6p:=g6;try simp only [Bool.and_eq_true,Bool.or_eq_true,Bool.and_eq_false_iff,Bool.or_eq_false_iff,Bool.not_eq_true',Bool.not_eq_false',decide_eq_true_eq,decide_eq_false_iff_not] at g6p
  refine zrl 4 2 [1,0] [(34,sv a.title),(36,sv b.title)] ?_
  refine ix rfl (B5x rfl rfl rfl) ?_
  refine ip' 1 0 [(38,bv (decide (a.title=b.title)))] ?_
  exact zai 5 32 38 g6
 refine ip' 1 0 [(5,bv (((((decide (a.cols=b.cols))&&(decide (a.cursor=b.cursor)))&&(a.visible == b.visible))&&(decide (a.shape=b.shape)))&&(decide (a.title=b.title))))] ?_
 refine ie (sr 9 rfl (ip' 2 7 [(40,bv (((((decide (a.cols=b.cols))&&(decide (a.cursor=b.cursor)))&&(a.visible == b.visible))&&(decide (a.shape=b.shape)))&&(decide (a.title=b.title))))] ?_))
 refine zia 6 1 40 46 (C7 aR bR) (fun g7=>?_) ?_
 ·have g7p:=g7;try simp only [Bool.and_eq_true,Bool.or_eq_true,Bool.and_eq_false_iff,Bool.or_eq_false_iff,Bool.not_eq_true',Bool.not_eq_false',decide_eq_true_eq,decide_eq_false_iff_not] at g7p
  refine zrl 4 2 [1,0] [(42,.slice aQ aR.length aK),(44,.slice bQ bR.length bK)] ?_
  refine zca (N9 aR bR aQ aZ aK bQ bZ bK hrowsaRowsrs (by first|omega|(simp only [List.length_take,List.length_drop,List.length_append,List.length_cons,List.length_nil,List.length_set,List.length_map];omega)|decide) (by first|omega|(simp only [List.length_take,List.length_drop,List.length_append,List.length_cons,List.length_nil,List.length_set,List.length_map];omega)|decide) hrowsbRowsrs (by first|omega|(simp only [List.length_take,List.length_drop,List.length_append,List.length_cons,List.length_nil,List.length_set,List.length_map];omega)|decide) (by first|omega|(simp only [List.length_take,List.length_drop,List.length_append,List.length_cons,List.length_nil,List.length_set,List.length_map];omega)|decide) _ rfl) A5.refl ?_
  refine ip' 1 0 [(46,bv (C7 aR bR))] ?_
  exact zai 5 40 46 g7
 refine ip' 1 0 [(4,bv ((((((decide (a.cols=b.cols))&&(decide (a.cursor=b.cursor)))&&(a.visible == b.visible))&&(decide (a.shape=b.shape)))&&(decide (a.title=b.title)))&&(C7 aR bR)))] ?_
 subst hR
 refine ie (B4 ?_)
 exact F8 hr hD
end Go.Proofs.YthcjfkljekdioaaGreatDoor
set_option linter.unusedVariables false
set_option linter.unusedSimpArgs false
set_option linter.unnecessarySimpa false
set_option maxRecDepth 100000
namespace Go.Proofs.YthcjfkljekdioaaGreatDoor
open Go Go.Fen
theorem C1i:ApTy Tryz.prog 22 69 1 24:=⟨by kernel_rfl,by kernel_rfl,rfl⟩
theorem A6o:Ty Tryz.prog 26 7 true:=⟨by kernel_rfl⟩
def E9 (s:ScrC) (sMain:List (Rwc Cel)) (sAlt:List (Rwc Cel)) (sTabs:List Bool):Unit :=
 ()
theorem B5a (s:ScrC) (sMain:List (Rwc Cel)) (sAlt:List (Rwc Cel)) (sTabs:List Bool) (sMainq:Option Addr) (sMainrs:List Rwq) (sMaink:Nat) (sAltq:Option Addr) (sAltrs:List Rwq) (sAltk:Nat) (sTabsq:Option Addr) (sTabsk:Nat) (hrowssMainrs:E6 sMainrs sMain) (hlsMain:sMain.length≤9223372036854775807) (hcsMain:sMain.length≤sMaink) (hrowssAltrs:E6 sAltrs sAlt) (hlsAlt:sAlt.length≤9223372036854775807) (hcsAlt:sAlt.length≤sAltk) (hlsTabs:sTabs.length≤9223372036854775807) (hcsTabs:sTabs.length≤sTabsk) (R:Unit) (hR:E9 s sMain sAlt sTabs=R):Con Tryz.prog 78 [ag (B1 s ⟨sMainq,sMain.length,sMaink⟩ ⟨sAltq,sAlt.length,sAltk⟩ ⟨none,0,0⟩ ⟨sTabsq,sTabs.length,sTabsk⟩)] [] [sl C4 sMainq sMainrs,D9 B3 sMainrs sMain,sl C4 sAltq sAltrs,D9 B3 sAltrs sAlt,sl F6 sTabsq sTabs] (Nat) (fun x=>.func (.func 133) #[] #[pt x 0]) (fun x=>[bx x (B1 s ⟨sMainq,sMain.length,sMaink⟩ ⟨sAltq,sAlt.length,sAltk⟩ ⟨none,0,0⟩ ⟨sTabsq,sTabs.length,sTabsk⟩) 52]) (fun x=>[]):=by
 refine zco Tryz.func78 [(0,ag (B1 s ⟨sMainq,sMain.length,sMaink⟩ ⟨sAltq,sAlt.length,sAltk⟩ ⟨none,0,0⟩ ⟨sTabsq,sTabs.length,sTabsk⟩))] fun X hX hr hD=>?_
 replace hR:=(E9.eq_1 ..).symm.trans hR
 have:=hrowssMainrs.1
 have:=hrowssAltrs.1
 refine sr 2 rfl (K6 2 0 [] (fun b1=>[(1,pt b1 0)]) (fun b1=>[bx b1 (B1 s ⟨sMainq,sMain.length,sMaink⟩ ⟨sAltq,sAlt.length,sAltk⟩ ⟨none,0,0⟩ ⟨sTabsq,sTabs.length,sTabsk⟩) 52]) (fun b1=>?_))
 refine ie (sr 2 rfl (ip' 2 0 [(2,.func (.func 133) #[] #[pt b1 0])] ?_))
 subst hR
 refine ie (B4 ?_)
 exact zer hr hD (R1 rfl (B5 rfl)) b1 (mk [true] rfl) fn0
def N8:List (Rwc Cel)→Nat→List (List Cel)
 | [],t14=>[]
 | hd_l0::tl_l0,t14=>(((hd_l0.l).take (hd_l0.l.length))::N8 tl_l0 (t14+1))
def S7 (l1:List (Rwc Cel)):List (List Cel) :=
 N8 l1 0
def Y2 (c0:ScrC) (c0Main:List (Rwc Cel)) (c0Alt:List (Rwc Cel)) (c0Tabs:List Bool):List (List Cel) :=
 (bif c0.onAlt then S7 c0Alt else S7 c0Main)
theorem A1f:∀ (l:List (Rwc Cel)) (t:Nat),(N8 l t).length=l.length
 | [],t=>rfl
 | a::l,t=>by simp only [N8,List.length_cons,A1f l (t+1)]
theorem A6a (l:List (Rwc Cel)):(S7 l).length=l.length:=A1f l 0
theorem B0q (c0:ScrC) (c0Main:List (Rwc Cel)) (c0Alt:List (Rwc Cel)) (c0Tabs:List Bool) (c0b:Nat) (c0Mainq:Option Addr) (c0Mainrs:List Rwq) (c0Maink:Nat) (c0Altq:Option Addr) (c0Altrs:List Rwq) (c0Altk:Nat) (c0Tabsq:Option Addr) (c0Tabsk:Nat) (hrowsc0Mainrs:E6 c0Mainrs c0Main) (hlc0Main:c0Main.length≤9223372036854775807) (hcc0Main:c0Main.length≤c0Maink) (hrowsc0Altrs:E6 c0Altrs c0Alt) (hlc0Alt:c0Alt.length≤9223372036854775807) (hcc0Alt:c0Alt.length≤c0Altk) (hlc0Tabs:c0Tabs.length≤9223372036854775807) (hcc0Tabs:c0Tabs.length≤c0Tabsk) (R:List (List Cel)) (hR:Y2 c0 c0Main c0Alt c0Tabs=R):B1f Tryz.prog 133 [pt c0b 0] [bx c0b (B1 c0 ⟨c0Mainq,c0Main.length,c0Maink⟩ ⟨c0Altq,c0Alt.length,c0Altk⟩ ⟨none,0,0⟩ ⟨c0Tabsq,c0Tabs.length,c0Tabsk⟩) 52] [sl C4 c0Mainq c0Mainrs,D9 B3 c0Mainrs c0Main,sl C4 c0Altq c0Altrs,D9 B3 c0Altrs c0Alt,sl F6 c0Tabsq c0Tabs] B3 R:=by
 refine B8k [bx c0b (B1 c0 ⟨c0Mainq,c0Main.length,c0Maink⟩ ⟨c0Altq,c0Alt.length,c0Altk⟩ ⟨none,0,0⟩ ⟨c0Tabsq,c0Tabs.length,c0Tabsk⟩) 52] (n:=31) Tryz.func133 rfl (by kernel_rfl) rfl rfl (fun l=>[(0,.func (.yield l) #[] #[]),(1,pt c0b 0)]) (fun l=>⟨rfl,rfl,trivial⟩) fun X l I Ix L Φ hX hr hD hI0 hY=>?_
 replace hR:=(Y2.eq_1 ..).symm.trans hR
 have:=hrowsc0Mainrs.1
 have:=hrowsc0Altrs.1
 refine sr 3 rfl (zrl 3 0 [0] [(3,.slice c0Mainq c0Main.length c0Maink)] ?_)
 refine ie (C8m (fun (l1:List (Rwc Cel)) (lq:Option Addr) (lrs:List Rwq) (lk:Nat) (R_:List (List Cel)) (Lt:Fen.Own) (Ft:List Pers)=>(S7 l1=R_∧l1.length≤lk∧l1.length≤9223372036854775807∧E6 lrs l1∧I R_ Lt Ft,[(0,.func (.yield l) #[] #[]),(3,.slice lq l1.length lk)],(bx c0b (B1 c0 ⟨c0Mainq,c0Main.length,c0Maink⟩ ⟨c0Altq,c0Alt.length,c0Altk⟩ ⟨none,0,0⟩ ⟨c0Tabsq,c0Tabs.length,c0Tabsk⟩) 52::Lt++([])),(sl C4 c0Mainq c0Mainrs::D9 B3 c0Mainrs c0Main::sl C4 c0Altq c0Altrs::D9 B3 c0Altrs c0Alt::sl F6 c0Tabsq c0Tabs::sl C4 lq lrs::D9 B3 lrs l1::Ft))) ?_ ?_)
 ·refine sr 2 rfl (zrl 2 0 [0] [(9,bv c0.onAlt)] ?_)
  refine ie ?_
  refine zjb rfl hR ?_ ?_<;>clear hR<;>intro hR h1
  ·refine A1 3 rfl (zrl 3 0 [0] [(3,.slice c0Altq c0Alt.length c0Altk)] ?_)
   refine A6 ?_
   exact C6y c0Alt c0Altq c0Altrs c0Altk R L Φ ⟨hR,(by first|omega|(simp only [List.length_take,List.length_drop,List.length_append,List.length_cons,List.length_nil,List.length_set,List.length_map,E9];omega)|decide),(by first|omega|(simp only [List.length_take,List.length_drop,List.length_append,List.length_cons,List.length_nil,List.length_set,List.length_map,E9];omega)|decide),hrowsc0Altrs,hI0⟩ (mc [[bx c0b (B1 c0 ⟨c0Mainq,c0Main.length,c0Maink⟩ ⟨c0Altq,c0Alt.length,c0Altk⟩ ⟨none,0,0⟩ ⟨c0Tabsq,c0Tabs.length,c0Tabsk⟩) 52],L] [true,true] rfl (by first|rfl|(simp only [List.length_set]<;>rfl))) (A5.con1 (B9 0 rfl) (A5.con1 (B9 1 rfl) (A5.con1 (B9 2 rfl) (A5.con1 (B9 3 rfl) (A5.con1 (B9 4 rfl) (A5.con1 (B9 2 rfl) (A5.con1 (B9 3 rfl) (A5.dropT 5 rfl))))))))
  refine A8 ?_
  exact C6y c0Main c0Mainq c0Mainrs c0Maink R L Φ ⟨hR,(by first|omega|(simp only [List.length_take,List.length_drop,List.length_append,List.length_cons,List.length_nil,List.length_set,List.length_map,E9];omega)|decide),(by first|omega|(simp only [List.length_take,List.length_drop,List.length_append,List.length_cons,List.length_nil,List.length_set,List.length_map,E9];omega)|decide),hrowsc0Mainrs,hI0⟩ (mc [[bx c0b (B1 c0 ⟨c0Mainq,c0Main.length,c0Maink⟩ ⟨c0Altq,c0Alt.length,c0Altk⟩ ⟨none,0,0⟩ ⟨c0Tabsq,c0Tabs.length,c0Tabsk⟩) 52],L] [true,true] rfl (by first|rfl|(simp only [List.length_set]<;>rfl))) (A5.con1 (B9 0 rfl) (A5.con1 (B9 1 rfl) (A5.con1 (B9 2 rfl) (A5.con1 (B9 3 rfl) (A5.con1 (B9 4 rfl) (A5.con1 (B9 0 rfl) (A5.con1 (B9 1 rfl) (A5.dropT 5 rfl))))))))
 intro l1 lq lrs lk R_ Lt Ft
 rintro ⟨hR,hcl1,hll1,hrowslrs,hILt⟩
 replace hR:=(S7.eq_1 ..).symm.trans hR
 refine sr 3 rfl (ip' 3 0 [(12,.slice lq l1.length lk),(13,iv (l1.length:Int)),(14,iv 0)] ?_)
 refine ie (A9 ?_)
 refine B3d (fun (t14:Nat) (R_1:List (List Cel)) (Lt1:Fen.Own) (Ft1:List Pers)=>(t14≤l1.length∧N8 (l1.drop t14) t14=R_1∧I R_1 Lt1 Ft1,[(0,.func (.yield l) #[] #[]),(12,.slice lq l1.length lk),(13,iv (l1.length:Int)),(14,iv (t14:Int))],(bx c0b (B1 c0 ⟨c0Mainq,c0Main.length,c0Maink⟩ ⟨c0Altq,c0Alt.length,c0Altk⟩ ⟨none,0,0⟩ ⟨c0Tabsq,c0Tabs.length,c0Tabsk⟩) 52::Lt1++([])),(sl C4 c0Mainq c0Mainrs::D9 B3 c0Mainrs c0Main::sl C4 c0Altq c0Altrs::D9 B3 c0Altrs c0Alt::sl F6 c0Tabsq c0Tabs::sl C4 lq lrs::D9 B3 lrs l1::Ft1),l1.length - t14)) 0 R_ Lt Ft ⟨(by omega),hR,hILt⟩ (mc [[bx c0b (B1 c0 ⟨c0Mainq,c0Main.length,c0Maink⟩ ⟨c0Altq,c0Alt.length,c0Altk⟩ ⟨none,0,0⟩ ⟨c0Tabsq,c0Tabs.length,c0Tabsk⟩) 52],Lt] [true,true] rfl (by first|rfl|(simp only [List.length_set]<;>rfl))) (A5.con1 (B9 0 rfl) (A5.con1 (B9 1 rfl) (A5.con1 (B9 2 rfl) (A5.con1 (B9 3 rfl) (A5.con1 (B9 4 rfl) (A5.con1 (B9 5 rfl) (A5.con1 (B9 6 rfl) (A5.dropT 7 rfl)))))))) ?_
 rintro t14 R_1 Lt1 Ft1 ⟨hm2,hR,hILt1⟩
 refine sr 1 rfl (ip' 1 0 [(15,bv (decide ((t14:Int)<(l1.length:Int))))] ?_)
 refine ie (A4 (R3 rfl (fun h3=>?_) (fun h3=>?_)))
 ·have h3p:(t14:Int)<(l1.length:Int):=by simpa using h3
  rw [R9 zwc (show t14<l1.length by omega)] at hR;replace hR:=(N8.eq_2 ..).symm.trans hR
  refine A8 (nx (A4 (A9 (sr 4 rfl (I4 5 rfl (by have:=hrowslrs.1;omega) fun a4 hq5=>?_)))))
  refine G5 (C0y (k:=t14) hrowslrs 6 rfl (by have:=hrowslrs.1;omega)) ?_
  have:=B6t hrowslrs (k:=t14) (by have:=hrowslrs.1;omega)
  refine ix rfl (F1 B3i rfl rfl hq5 rfl t14 rfl (by omega)) ?_
  refine ix rfl (F5 (M5 (us:=[.slice ((lrs.getD t14 zwq).s.q) ((lrs.getD t14 zwq).s.n) ((lrs.getD t14 zwq).s.k),bv ((lrs.getD t14 zwq).b)]) C0j rfl rfl (G6 (c:=C4) (sz:=2) hq5 (fun _=>rfl) 6 rfl (gd zwq (by have:=hrowslrs.1;omega))) rfl) (C4s hrowslrs (by have:=hrowslrs.1;omega))) ?_
  refine K6 2 0 [0] (fun b6=>[(5,pt b6 0)]) (fun b6=>(bx b6 [.slice ((lrs.getD t14 zwq).s.q) ((l1.getD t14 zwc).l.length) ((lrs.getD t14 zwq).s.k),bv ((l1.getD t14 zwc).b)] 78::bx c0b (B1 c0 ⟨c0Mainq,c0Main.length,c0Maink⟩ ⟨c0Altq,c0Alt.length,c0Altk⟩ ⟨none,0,0⟩ ⟨c0Tabsq,c0Tabs.length,c0Tabsk⟩) 52::Lt1++([]))) (fun b6=>?_)
  refine ie (sr 12 rfl (zrl 9 3 [0,0,0] [(18,.func (.yield l) #[] #[]),(20,.slice ((lrs.getD t14 zwq).s.q) ((l1.getD t14 zwc).l.length) ((lrs.getD t14 zwq).s.k)),(23,iv ((l1.getD t14 zwc).l.length:Int)),(26,iv ((l1.getD t14 zwc).l.length:Int))] ?_))
  refine G5 (B8s (B9 0 rfl) ((l1.getD t14 zwc).l.length)) ?_
  refine ix rfl (A4x (n':=(((l1.getD t14 zwc).l).take ((l1.getD t14 zwc).l.length)).length) Q8 rfl rfl ((l1.getD t14 zwc).l.length) ((l1.getD t14 zwc).l.length) (Q3 rfl rfl) (Q3 rfl rfl) (by omega) (by omega) (by first|rfl|omega|(simp only [List.length_take,List.length_drop];omega)|(simp;done)) rfl) ?_
  have:=@List.length_take _ ((l1.getD t14 zwc).l.length) ((l1.getD t14 zwc).l)
  have hq12:=C2u hR;clear hR;obtain ⟨R7,hR,hq12⟩:=hq12;rw [hq12] at hILt1
  refine it rfl (A8z (L2:=[bx b6 [.slice ((lrs.getD t14 zwq).s.q) ((l1.getD t14 zwc).l.length) ((lrs.getD t14 zwq).s.k),bv ((l1.getD t14 zwc).b)] 78,bx c0b (B1 c0 ⟨c0Mainq,c0Main.length,c0Maink⟩ ⟨c0Altq,c0Alt.length,c0Altk⟩ ⟨none,0,0⟩ ⟨c0Tabsq,c0Tabs.length,c0Tabsk⟩) 52]) (hY (((l1.getD t14 zwc).l).take ((l1.getD t14 zwc).l.length)) R7 _ _ ((lrs.getD t14 zwq).s.q) ((l1.getD t14 zwc).l.length) (by first|omega|(simp only [List.length_take,List.length_drop,List.length_append,List.length_cons,List.length_nil,List.length_set,List.length_map,E9];omega)|decide) (by first|omega|(simp only [List.length_take,List.length_drop,List.length_append,List.length_cons,List.length_nil,List.length_set,List.length_map,E9];omega)|decide) hILt1) rfl rfl rfl rfl (A5.con1 (B9 0 rfl) (A5.dropT 9 rfl)) (H0 [[bx b6 [.slice ((lrs.getD t14 zwq).s.q) ((l1.getD t14 zwc).l.length) ((lrs.getD t14 zwq).s.k),bv ((l1.getD t14 zwc).b)] 78],[bx c0b (B1 c0 ⟨c0Mainq,c0Main.length,c0Maink⟩ ⟨c0Altq,c0Alt.length,c0Altk⟩ ⟨none,0,0⟩ ⟨c0Tabsq,c0Tabs.length,c0Tabsk⟩) 52],Lt1] [2,0,1] 3 rfl (by decide) rfl [Lt1,[bx b6 [.slice ((lrs.getD t14 zwq).s.q) ((l1.getD t14 zwc).l.length) ((lrs.getD t14 zwq).s.k),bv ((l1.getD t14 zwc).b)] 78],[bx c0b (B1 c0 ⟨c0Mainq,c0Main.length,c0Maink⟩ ⟨c0Altq,c0Alt.length,c0Altk⟩ ⟨none,0,0⟩ ⟨c0Tabsq,c0Tabs.length,c0Tabsk⟩) 52]] rfl (by simp only [List.flatten_cons,List.flatten_nil,List.append_nil,List.cons_append,List.nil_append,List.append_assoc]))) fun ⟨⟨y8,L9,Φ10⟩,hy11⟩=>?_
  refine B5f (A5.yield [sl B3 ((lrs.getD t14 zwq).s.q) (((l1.getD t14 zwc).l).take ((l1.getD t14 zwc).l.length)),sl B3 ((lrs.getD t14 zwq).s.q) ((l1.getD t14 zwc).l),sl C4 c0Mainq c0Mainrs,D9 B3 c0Mainrs c0Main,sl C4 c0Altq c0Altrs,D9 B3 c0Altrs c0Alt,sl F6 c0Tabsq c0Tabs,sl C4 lq lrs,D9 B3 lrs l1]) ?_
  refine ip' 1 0 [(29,bv (!y8))] ?_
  refine ie (R3 rfl (fun h13=>?_) (fun h13=>?_))
  ·have h13b:y8=false:=by simpa using h13
   rw [h13b] at hy11;try simp only [if_true,if_false,Bool.false_eq_true] at hy11
   refine B4 ?_
   exact B3p rfl ⟨hr,hD⟩ (by simp [hD]) (A8e rfl) (L':=L9) (Φ':=Φ10) (by exact .inr hy11) (mcT [L9,[bx b6 [.slice ((lrs.getD t14 zwq).s.q) ((l1.getD t14 zwc).l.length) ((lrs.getD t14 zwq).s.k),bv ((l1.getD t14 zwc).b)] 78],[bx c0b (B1 c0 ⟨c0Mainq,c0Main.length,c0Maink⟩ ⟨c0Altq,c0Alt.length,c0Altk⟩ ⟨none,0,0⟩ ⟨c0Tabsq,c0Tabs.length,c0Tabsk⟩) 52]] 0 rfl rfl) (A5.dropT 9 rfl)
  ·have h13b:y8=true:=by simpa using h13
   rw [h13b] at hy11;try simp only [if_true,if_false,Bool.false_eq_true] at hy11
   refine A8 (nx (A1 2 rfl (ix rfl (B0 rfl rfl rfl rfl (by omega)) ?_)))
   refine ip' 1 0 [(14,iv ((t14:Int)+1))] ?_
   refine A6 (Z1 (H0 [L9,[bx b6 [.slice ((lrs.getD t14 zwq).s.q) ((l1.getD t14 zwc).l.length) ((lrs.getD t14 zwq).s.k),bv ((l1.getD t14 zwc).b)] 78],[bx c0b (B1 c0 ⟨c0Mainq,c0Main.length,c0Maink⟩ ⟨c0Altq,c0Alt.length,c0Altk⟩ ⟨none,0,0⟩ ⟨c0Tabsq,c0Tabs.length,c0Tabsk⟩) 52]] [2,0,1] 3 rfl (by decide) rfl [[bx c0b (B1 c0 ⟨c0Mainq,c0Main.length,c0Maink⟩ ⟨c0Altq,c0Alt.length,c0Altk⟩ ⟨none,0,0⟩ ⟨c0Tabsq,c0Tabs.length,c0Tabsk⟩) 52],L9,[bx b6 [.slice ((lrs.getD t14 zwq).s.q) ((l1.getD t14 zwc).l.length) ((lrs.getD t14 zwq).s.k),bv ((l1.getD t14 zwc).b)] 78]] rfl (by first|rfl|simp)) ?_)
   exact B3a (z1:=t14) (z2:=R_1) (z3:=Lt1) (z4:=Ft1) (t14+1) R7 L9 Φ10 ⟨(by omega),hR,hy11⟩ (by (try dsimp only);omega) (mc [[bx c0b (B1 c0 ⟨c0Mainq,c0Main.length,c0Maink⟩ ⟨c0Altq,c0Alt.length,c0Altk⟩ ⟨none,0,0⟩ ⟨c0Tabsq,c0Tabs.length,c0Tabsk⟩) 52],L9,[bx b6 [.slice ((lrs.getD t14 zwq).s.q) ((l1.getD t14 zwc).l.length) ((lrs.getD t14 zwq).s.k),bv ((l1.getD t14 zwc).b)] 78]] [true,true,false] rfl (by first|rfl|(simp only [List.length_set]<;>rfl))) (A5.con1 (B9 2 rfl) (A5.con1 (B9 3 rfl) (A5.con1 (B9 4 rfl) (A5.con1 (B9 5 rfl) (A5.con1 (B9 6 rfl) (A5.con1 (B9 7 rfl) (A5.con1 (B9 8 rfl) (A5.dropT 9 rfl))))))))
 have h3p:¬ ((t14:Int)<(l1.length:Int)):=by simpa using h3
 rw [R8 h3p] at hR;replace hR:=(N8.eq_1 ..).symm.trans hR
 subst hR
 refine F3 ?_
 exact A4f rfl ⟨hr,hD⟩ (by simp [hD]) (A8e rfl) (L':=Lt1) (Φ':=Ft1) (by exact .inl hILt1) (mcT [[bx c0b (B1 c0 ⟨c0Mainq,c0Main.length,c0Maink⟩ ⟨c0Altq,c0Alt.length,c0Altk⟩ ⟨none,0,0⟩ ⟨c0Tabsq,c0Tabs.length,c0Tabsk⟩) 52],Lt1] 1 rfl rfl) (A5.dropT 7 rfl)
def O3 (s:ScrC):List (List Cel)→List (List Cel)→(FrmC×List (List Cel))
 | [],fR=>((⟨s.cols,(⟨s.cursor.row,s.cursor.col⟩:Plc),s.modes.visible,s.shape,s.title⟩:FrmC),fR)
 | el::rest,fR=>O3 s rest (fR++([el]:List (List Cel)))
def A0g (s:ScrC) (sMain:List (Rwc Cel)) (sAlt:List (Rwc Cel)) (sTabs:List Bool):FrmC×List (List Cel) :=
 O3 s (Y2 s sMain sAlt sTabs) ([]:List (List Cel))
theorem A7h (s:ScrC) (sMain:List (Rwc Cel)) (sAlt:List (Rwc Cel)) (sTabs:List Bool) (sMainq:Option Addr) (sMainrs:List Rwq) (sMaink:Nat) (sAltq:Option Addr) (sAltrs:List Rwq) (sAltk:Nat) (sTabsq:Option Addr) (sTabsk:Nat) (hrowssMainrs:E6 sMainrs sMain) (hlsMain:sMain.length≤9223372036854775807) (hcsMain:sMain.length≤sMaink) (hrowssAltrs:E6 sAltrs sAlt) (hlsAlt:sAlt.length≤9223372036854775807) (hcsAlt:sAlt.length≤sAltk) (hlsTabs:sTabs.length≤9223372036854775807) (hcsTabs:sTabs.length≤sTabsk) (hM:sMain.length≤100) (hA:sAlt.length≤100) (R:FrmC×List (List Cel)) (hR:A0g s sMain sAlt sTabs=R):Con Tryz.prog 40 [ag (B1 s ⟨sMainq,sMain.length,sMaink⟩ ⟨sAltq,sAlt.length,sAltk⟩ ⟨none,0,0⟩ ⟨sTabsq,sTabs.length,sTabsk⟩)] [] [sl C4 sMainq sMainrs,D9 B3 sMainrs sMain,sl C4 sAltq sAltrs,D9 B3 sAltrs sAlt,sl F6 sTabsq sTabs] ({t:VR×List Slc // VOk 1 R.2.length t.1∧C5 t.2 R.2}) (fun x=>ag (A0 R.1 ⟨va x.1.1.q,R.2.length,x.1.1.k⟩)) (fun x=>((vo C3 69 x.1.1 x.1.2)++([]))) (fun x=>[E7 B3 x.1.2 R.2]):=by
 refine zco Tryz.func40 [(0,ag (B1 s ⟨sMainq,sMain.length,sMaink⟩ ⟨sAltq,sAlt.length,sAltk⟩ ⟨none,0,0⟩ ⟨sTabsq,sTabs.length,sTabsk⟩))] fun X hX hr hD=>?_
 replace hR:=(A0g.eq_1 ..).symm.trans hR
 have:=hrowssMainrs.1
 have:=hrowssAltrs.1
 refine sr 2 rfl (B1l 2 0 [] (fun b1 b2=>[(1,pt b1 0),(2,pt b2 0)]) (fun b1 b2=>[bx b2 (A0 FrmC.zero ⟨none,0,0⟩) 26,bx b1 (B1 s ⟨sMainq,sMain.length,sMaink⟩ ⟨sAltq,sAlt.length,sAltk⟩ ⟨none,0,0⟩ ⟨sTabsq,sTabs.length,sTabsk⟩) 52]) (fun b1 b2=>?_))
 refine ie (sr 19 rfl (K6 19 0 [1,1,1,1,1,1,0] (fun b3=>[(3,pt b3 0)]) (fun b3=>[bx b3 (A0 (⟨s.cols,(⟨s.cursor.row,s.cursor.col⟩:Plc),s.modes.visible,s.shape,s.title⟩:FrmC) ⟨none,0,0⟩) 26,bx b2 (A0 FrmC.zero ⟨none,0,0⟩) 26,bx b1 (B1 s ⟨sMainq,sMain.length,sMaink⟩ ⟨sAltq,sAlt.length,sAltk⟩ ⟨none,0,0⟩ ⟨sTabsq,sTabs.length,sTabsk⟩) 52]) (fun b3=>?_)))
 refine ie (A4 (sr 2 rfl (zrl 1 1 [2] [(22,ag (B1 s ⟨sMainq,sMain.length,sMaink⟩ ⟨sAltq,sAlt.length,sAltk⟩ ⟨none,0,0⟩ ⟨sTabsq,sTabs.length,sTabsk⟩))] ?_)))
 refine it rfl (G9 (L2:=[bx b3 (A0 (⟨s.cols,(⟨s.cursor.row,s.cursor.col⟩:Plc),s.modes.visible,s.shape,s.title⟩:FrmC) ⟨none,0,0⟩) 26,bx b2 (A0 FrmC.zero ⟨none,0,0⟩) 26,bx b1 (B1 s ⟨sMainq,sMain.length,sMaink⟩ ⟨sAltq,sAlt.length,sAltk⟩ ⟨none,0,0⟩ ⟨sTabsq,sTabs.length,sTabsk⟩) 52]) (B5a s sMain sAlt sTabs sMainq sMainrs sMaink sAltq sAltrs sAltk sTabsq sTabsk hrowssMainrs (by first|omega|(simp only [List.length_take,List.length_drop,List.length_append,List.length_cons,List.length_nil,List.length_set,List.length_map,E9];omega)|decide) (by first|omega|(simp only [List.length_take,List.length_drop,List.length_append,List.length_cons,List.length_nil,List.length_set,List.length_map,E9];omega)|decide) hrowssAltrs (by first|omega|(simp only [List.length_take,List.length_drop,List.length_append,List.length_cons,List.length_nil,List.length_set,List.length_map,E9];omega)|decide) (by first|omega|(simp only [List.length_take,List.length_drop,List.length_append,List.length_cons,List.length_nil,List.length_set,List.length_map,E9];omega)|decide) (by first|omega|(simp only [List.length_take,List.length_drop,List.length_append,List.length_cons,List.length_nil,List.length_set,List.length_map,E9];omega)|decide) (by first|omega|(simp only [List.length_take,List.length_drop,List.length_append,List.length_cons,List.length_nil,List.length_set,List.length_map,E9];omega)|decide) _ rfl) rfl rfl rfl rfl rfl A5.refl (List.Perm.refl _) (fun b4=>[bx b4 (B1 s ⟨sMainq,sMain.length,sMaink⟩ ⟨sAltq,sAlt.length,sAltk⟩ ⟨none,0,0⟩ ⟨sTabsq,sTabs.length,sTabsk⟩) 52,bx b3 (A0 (⟨s.cols,(⟨s.cursor.row,s.cursor.col⟩:Plc),s.modes.visible,s.shape,s.title⟩:FrmC) ⟨none,0,0⟩) 26,bx b2 (A0 FrmC.zero ⟨none,0,0⟩) 26,bx b1 (B1 s ⟨sMainq,sMain.length,sMaink⟩ ⟨sAltq,sAlt.length,sAltk⟩ ⟨none,0,0⟩ ⟨sTabsq,sTabs.length,sTabsk⟩) 52]) (fun _=>rfl)) fun b4=>?_
 refine ie (A9 (Z1 (H0 [vo C3 69 VR.nil ([]:List Slc),[bx b4 (B1 s ⟨sMainq,sMain.length,sMaink⟩ ⟨sAltq,sAlt.length,sAltk⟩ ⟨none,0,0⟩ ⟨sTabsq,sTabs.length,sTabsk⟩) 52],[bx b3 (A0 (⟨s.cols,(⟨s.cursor.row,s.cursor.col⟩:Plc),s.modes.visible,s.shape,s.title⟩:FrmC) ⟨none,0,0⟩) 26],[bx b2 (A0 FrmC.zero ⟨none,0,0⟩) 26],[bx b1 (B1 s ⟨sMainq,sMain.length,sMaink⟩ ⟨sAltq,sAlt.length,sAltk⟩ ⟨none,0,0⟩ ⟨sTabsq,sTabs.length,sTabsk⟩) 52]] [2,3,4,0,1] 5 rfl (by decide) rfl [[bx b3 (A0 (⟨s.cols,(⟨s.cursor.row,s.cursor.col⟩:Plc),s.modes.visible,s.shape,s.title⟩:FrmC) ⟨none,0,0⟩) 26],[bx b2 (A0 FrmC.zero ⟨none,0,0⟩) 26],[bx b1 (B1 s ⟨sMainq,sMain.length,sMaink⟩ ⟨sAltq,sAlt.length,sAltk⟩ ⟨none,0,0⟩ ⟨sTabsq,sTabs.length,sTabsk⟩) 52],vo C3 69 VR.nil ([]:List Slc),[bx b4 (B1 s ⟨sMainq,sMain.length,sMaink⟩ ⟨sAltq,sAlt.length,sAltk⟩ ⟨none,0,0⟩ ⟨sTabsq,sTabs.length,sTabsk⟩) 52]] rfl (by first|rfl|simp)) ?_))
 refine C4t [(2,pt b2 0),(3,pt b3 0),(23,.func (.func 133) #[] #[pt b4 0])] ⟨rfl,rfl,rfl,trivial⟩ ?_
 refine C1j (cc:=B3) (xs:=(Y2 s sMain sAlt sTabs)) (σ:=List (List Cel)×VR×List Slc) hr rfl (B0q s sMain sAlt sTabs b4 sMainq sMainrs sMaink sAltq sAltrs sAltk sTabsq sTabsk hrowssMainrs (by first|omega|(simp only [List.length_take,List.length_drop,List.length_append,List.length_cons,List.length_nil,List.length_set,List.length_map,E9];omega)|decide) (by first|omega|(simp only [List.length_take,List.length_drop,List.length_append,List.length_cons,List.length_nil,List.length_set,List.length_map,E9];omega)|decide) hrowssAltrs (by first|omega|(simp only [List.length_take,List.length_drop,List.length_append,List.length_cons,List.length_nil,List.length_set,List.length_map,E9];omega)|decide) (by first|omega|(simp only [List.length_take,List.length_drop,List.length_append,List.length_cons,List.length_nil,List.length_set,List.length_map,E9];omega)|decide) (by first|omega|(simp only [List.length_take,List.length_drop,List.length_append,List.length_cons,List.length_nil,List.length_set,List.length_map,E9];omega)|decide) (by first|omega|(simp only [List.length_take,List.length_drop,List.length_append,List.length_cons,List.length_nil,List.length_set,List.length_map,E9];omega)|decide) _ rfl) A5.refl rfl rfl (fun rem x=>O3 s rem x.1=R∧VOk 1 x.1.length x.2.1∧C5 x.2.2 x.1∧x.1.length+rem.length≤100) (fun _ _=>False) (fun x=>(bx b3 (A0 (⟨s.cols,(⟨s.cursor.row,s.cursor.col⟩:Plc),s.modes.visible,s.shape,s.title⟩:FrmC) ⟨va x.2.1.q,x.1.length,x.2.1.k⟩) 26::bx b2 (A0 FrmC.zero ⟨none,0,0⟩) 26::bx b1 (B1 s ⟨sMainq,sMain.length,sMaink⟩ ⟨sAltq,sAlt.length,sAltk⟩ ⟨none,0,0⟩ ⟨sTabsq,sTabs.length,sTabsk⟩) 52::(vo C3 69 x.2.1 x.2.2)++([]))) (fun x=>[sl C4 sMainq sMainrs,D9 B3 sMainrs sMain,sl C4 sAltq sAltrs,D9 B3 sAltrs sAlt,sl F6 sTabsq sTabs,E7 B3 x.2.2 x.1]) (([]:List (List Cel)),VR.nil,([]:List Slc)) (by exact ⟨hR,VOk.nil,C5.none,(by first|(unfold Y2;rw [List.length_nil,Nat.zero_add,Bool.cond_eq_ite];split<;>rw [A6a]<;>omega)|(unfold B2w;rw [List.length_nil,Nat.zero_add,Bool.cond_eq_ite];split<;>rw [A5c]<;>omega))⟩) (mc [[bx b3 (A0 (⟨s.cols,(⟨s.cursor.row,s.cursor.col⟩:Plc),s.modes.visible,s.shape,s.title⟩:FrmC) ⟨none,0,0⟩) 26],[bx b2 (A0 FrmC.zero ⟨none,0,0⟩) 26],[bx b1 (B1 s ⟨sMainq,sMain.length,sMaink⟩ ⟨sAltq,sAlt.length,sAltk⟩ ⟨none,0,0⟩ ⟨sTabsq,sTabs.length,sTabsk⟩) 52],vo C3 69 VR.nil ([]:List Slc),[bx b4 (B1 s ⟨sMainq,sMain.length,sMaink⟩ ⟨sAltq,sAlt.length,sAltk⟩ ⟨none,0,0⟩ ⟨sTabsq,sTabs.length,sTabsk⟩) 52]] [true,true,true,true,true] rfl (by first|rfl|(simp only [List.length_set]<;>rfl))) (A5.con1 (B9 0 rfl) (A5.con1 (B9 1 rfl) (A5.con1 (B9 2 rfl) (A5.con1 (B9 3 rfl) (A5.con1 (B9 4 rfl) (A5.con1 P6 fn0)))))) ?_ ?_ (fun _ _ _ _ h=>h.elim)
 ·rintro el rest ⟨fR,fRowsr,fZ⟩ qel kel hc6 hl7 hI Y Y' K' hY' hK
  try dsimp only at hI
  obtain ⟨hR,hokfRowsr,hrowsfRowsrs,hbf⟩:=hI
  replace hR:=(O3.eq_2 ..).symm.trans hR
  have:=VOk.le hokfRowsr
  refine A1 1 rfl (ip' 1 0 [(4,.slice qel el.length kel)] ?_)
  refine A6 (hK _ _ _ ?_)
  refine A9 (A1 7 rfl (zrl 3 4 [0] [(26,.slice (va fRowsr.q) fR.length fRowsr.k),(27,.slice qel el.length kel)] ?_))
  refine it rfl (F9 (c:=C3) (xs:=([⟨qel,el.length,kel⟩]:List Slc)) S6 rfl rfl rfl (by kernel_rfl)) fun b8=>?_
  have hrows9:C5 ([⟨qel,el.length,kel⟩]:List Slc) ([el]:List (List Cel)):=(C5.cons ⟨rfl,(by first|omega|(simp only [List.length_take,List.length_drop,List.length_append,List.length_cons,List.length_nil,List.length_set,List.length_map,E9];omega)|decide),(by first|omega|(simp only [List.length_take,List.length_drop,List.length_append,List.length_cons,List.length_nil,List.length_set,List.length_map,E9];omega)|decide)⟩ C5.none)
  refine G5 (q:=E7 B3 ([⟨qel,el.length,kel⟩]:List Slc) ([el]:List (List Cel))) (A1o (B9 1 rfl) P6) ?_
  have:([⟨qel,el.length,kel⟩]:List Slc).length=1:=rfl
  have hw12:C5 (fZ++([⟨qel,el.length,kel⟩]:List Slc)) (fR++([el]:List (List Cel))):=C5.append hrowsfRowsrs hrows9
  refine it rfl (B5j (r:=fRowsr) (rs:=fZ) (xss:=fR) (pre:=[bx b3 (A0 (⟨s.cols,(⟨s.cursor.row,s.cursor.col⟩:Plc),s.modes.visible,s.shape,s.title⟩:FrmC) ⟨va fRowsr.q,fR.length,fRowsr.k⟩) 26,bx b2 (A0 FrmC.zero ⟨none,0,0⟩) 26,bx b1 (B1 s ⟨sMainq,sMain.length,sMaink⟩ ⟨sAltq,sAlt.length,sAltk⟩ ⟨none,0,0⟩ ⟨sTabsq,sTabs.length,sTabsk⟩) 52]) (post:=[]) C1i rfl rfl rfl rfl rfl rfl rfl rfl rfl (B9 1 rfl) (B9 8 rfl) (B9 0 rfl) hrowsfRowsrs hrows9 hokfRowsr (by first|omega|(simp only [List.length_cons,List.length_nil,List.length_append,List.length_take,List.length_drop,E9];omega)) (by first|omega|(simp only [List.length_cons,List.length_nil,List.length_append,List.length_take,List.length_drop,E9];omega))) fun ⟨r10,hr11⟩=>?_
  have:=VOk.le hr11
  have:=VOk.cap hr11
  have:([el]:List (List Cel)).length=1:=rfl
  have:(fR++([el]:List (List Cel))).length=fR.length+1:=List.length_append
  refine zrg 2 0 [0] [] (bx b3 (A0 (⟨s.cols,(⟨s.cursor.row,s.cursor.col⟩:Plc),s.modes.visible,s.shape,s.title⟩:FrmC) ⟨va r10.q,(fR++([el]:List (List Cel))).length,r10.k⟩) 26::bx b2 (A0 FrmC.zero ⟨none,0,0⟩) 26::bx b1 (B1 s ⟨sMainq,sMain.length,sMaink⟩ ⟨sAltq,sAlt.length,sAltk⟩ ⟨none,0,0⟩ ⟨sTabsq,sTabs.length,sTabsk⟩) 52::(vo C3 69 r10 (fZ++([⟨qel,el.length,kel⟩]:List Slc)))++([])) ?_
  refine A6 ?_
  refine B3s (I:=fun rem x=>O3 s rem x.1=R∧VOk 1 x.1.length x.2.1∧C5 x.2.2 x.1∧x.1.length+rem.length≤100) (Jx:=fun _ _=>False) (Lk:=fun x=>(bx b3 (A0 (⟨s.cols,(⟨s.cursor.row,s.cursor.col⟩:Plc),s.modes.visible,s.shape,s.title⟩:FrmC) ⟨va x.2.1.q,x.1.length,x.2.1.k⟩) 26::bx b2 (A0 FrmC.zero ⟨none,0,0⟩) 26::bx b1 (B1 s ⟨sMainq,sMain.length,sMaink⟩ ⟨sAltq,sAlt.length,sAltk⟩ ⟨none,0,0⟩ ⟨sTabsq,sTabs.length,sTabsk⟩) 52::(vo C3 69 x.2.1 x.2.2)++([]))) (Φk:=fun x=>[sl C4 sMainq sMainrs,D9 B3 sMainrs sMain,sl C4 sAltq sAltrs,D9 B3 sAltrs sAlt,sl F6 sTabsq sTabs,E7 B3 x.2.2 x.1]) (rest:=rest) ((fR++([el]:List (List Cel))),r10,(fZ++([⟨qel,el.length,kel⟩]:List Slc))) (by exact ⟨hR,hr11,hw12,(by simp only [List.length_cons,List.length_append,List.length_nil] at *;omega)⟩) (mc [[bx b3 (A0 (⟨s.cols,(⟨s.cursor.row,s.cursor.col⟩:Plc),s.modes.visible,s.shape,s.title⟩:FrmC) ⟨va r10.q,(fR++([el]:List (List Cel))).length,r10.k⟩) 26],[bx b2 (A0 FrmC.zero ⟨none,0,0⟩) 26],[bx b1 (B1 s ⟨sMainq,sMain.length,sMaink⟩ ⟨sAltq,sAlt.length,sAltk⟩ ⟨none,0,0⟩ ⟨sTabsq,sTabs.length,sTabsk⟩) 52],vo C3 69 r10 (fZ++([⟨qel,el.length,kel⟩]:List Slc))] [true,true,true,true] rfl (by first|rfl|(simp only [List.length_set]<;>rfl))) ?_
  exact (A5.pick [4,5,6,7,8,0] rfl)
 ·rintro d13 ⟨fR,fRowsr,fZ⟩ hd13 hI
  try dsimp only at hI
  obtain ⟨hR,hokfRowsr,hrowsfRowsrs,hbf⟩:=hI
  replace hR:=(O3.eq_1 ..).symm.trans hR
  have:=VOk.le hokfRowsr
  refine nx (sr 2 rfl (zrg 2 0 [0,1] [] (bx b3 (A0 (⟨s.cols,(⟨s.cursor.row,s.cursor.col⟩:Plc),s.modes.visible,s.shape,s.title⟩:FrmC) ⟨va fRowsr.q,fR.length,fRowsr.k⟩) 26::bx b2 (A0 (⟨s.cols,(⟨s.cursor.row,s.cursor.col⟩:Plc),s.modes.visible,s.shape,s.title⟩:FrmC) ⟨va fRowsr.q,fR.length,fRowsr.k⟩) 26::bx b1 (B1 s ⟨sMainq,sMain.length,sMaink⟩ ⟨sAltq,sAlt.length,sAltk⟩ ⟨none,0,0⟩ ⟨sTabsq,sTabs.length,sTabsk⟩) 52::(vo C3 69 fRowsr fZ)++([])) ?_))
  subst hR
  refine ie (B4 ?_)
  exact B1q rfl ⟨hr,hD⟩ (by exact (Z4.cons (show Z4 X.D by rw [hD];exact Z4.nil) hd13)) (R1 rfl (J1 (us:=A0 (⟨s.cols,(⟨s.cursor.row,s.cursor.col⟩:Plc),s.modes.visible,s.shape,s.title⟩:FrmC) ⟨va fRowsr.q,fR.length,fRowsr.k⟩) A6o rfl 1 rfl rfl rfl)) ⟨(fRowsr,fZ),⟨hokfRowsr,hrowsfRowsrs⟩⟩ (by rfl) (mc [[bx b3 (A0 (⟨s.cols,(⟨s.cursor.row,s.cursor.col⟩:Plc),s.modes.visible,s.shape,s.title⟩:FrmC) ⟨va fRowsr.q,fR.length,fRowsr.k⟩) 26],[bx b2 (A0 (⟨s.cols,(⟨s.cursor.row,s.cursor.col⟩:Plc),s.modes.visible,s.shape,s.title⟩:FrmC) ⟨va fRowsr.q,fR.length,fRowsr.k⟩) 26],[bx b1 (B1 s ⟨sMainq,sMain.length,sMaink⟩ ⟨sAltq,sAlt.length,sAltk⟩ ⟨none,0,0⟩ ⟨sTabsq,sTabs.length,sTabsk⟩) 52],vo C3 69 fRowsr fZ] [false,false,false,true] rfl (by first|rfl|(simp only [List.length_set]<;>rfl))) (A5.con1 (B9 5 rfl) fn0)
def X2 (cols:Int) (rows:Int):FrmC×List (List Cel)×Int :=
 (H3 (S1 cols rows) fun (y0:ScrC×List (Rwc Cel)×List (Rwc Cel)×List Bool×Int)=>(bif (!decide (y0.2.2.2.2=0)) then (FrmC.zero,([]:List (List Cel)),2) else (H3 (A0g y0.1 y0.2.1 y0.2.2.1 y0.2.2.2.1) fun (y1:FrmC×List (List Cel))=>(y1.1,y1.2,0))))
theorem A6g (s:ScrC):∀ (l f:List (List Cel)),(O3 s l f).1.title=s.title
 | [],f=>rfl
 | a::l,f=>by simp only [O3];exact A6g s l _
theorem A2n (c r:Int):(X2 c r).1.title.length=0:=by
 unfold X2 H3
 simp only [Bool.cond_eq_ite]
 split
 ·rfl
 ·show (A0g _ _ _ _).1.title.length=0
  unfold A0g;rw [A6g];exact A0m c r
theorem A6e (cols:Int) (rows:Int) (R:FrmC×List (List Cel)×Int) (hR:X2 cols rows=R):Con Tryz.prog 17 [iv cols,iv rows] [] [] ({t:VR×List Slc // VOk 1 R.2.1.length t.1∧C5 t.2 R.2.1}) (fun x=>.tuple #[ag (A0 R.1 ⟨va x.1.1.q,R.2.1.length,x.1.1.k⟩),iv R.2.2]) (fun x=>((vo C3 69 x.1.1 x.1.2)++([]))) (fun x=>[E7 B3 x.1.2 R.2.1]):=by
 refine zco Tryz.func17 [(0,iv cols),(1,iv rows)] fun X hX hr hD=>?_
 replace hR:=(X2.eq_1 ..).symm.trans hR
 refine sr 2 rfl (K6 2 0 [] (fun b1=>[(4,pt b1 0)]) (fun b1=>[bx b1 (A0 FrmC.zero ⟨none,0,0⟩) 26]) (fun b1=>?_))
 refine ie (sr 9 rfl (ip' 2 7 [(9,iv cols),(10,iv rows)] ?_))
 have hQ:=I2 hR;clear hR;obtain ⟨y0,hy0,hR⟩:=hQ
 refine it rfl (H2 (L2:=[bx b1 (A0 FrmC.zero ⟨none,0,0⟩) 26]) (A7p cols rows y0 hy0) rfl rfl rfl rfl rfl fn0 (List.Perm.refl _) (fun ⟨⟨⟨r2,rs3⟩,hp6⟩,⟨⟨r7,rs8⟩,hp11⟩,⟨r12,hk13⟩⟩=>(bx b1 (A0 FrmC.zero ⟨none,0,0⟩) 26::(vo C4 78 r2 rs3)++((vo C4 78 r7 rs8)++((vo F6 4 r12 y0.2.2.2.1)++([]))))) (fun ⟨⟨⟨r2,rs3⟩,hp6⟩,⟨⟨r7,rs8⟩,hp11⟩,⟨r12,hk13⟩⟩=>H0 [vo C4 78 r2 rs3,vo C4 78 r7 rs8,vo F6 4 r12 y0.2.2.2.1,[bx b1 (A0 FrmC.zero ⟨none,0,0⟩) 26]] [3,0,1,2] 4 rfl (by decide) (by first|rfl|simp only [List.flatten_cons,List.flatten_nil,List.append_nil,List.cons_append,List.nil_append,List.append_assoc]) [[bx b1 (A0 FrmC.zero ⟨none,0,0⟩) 26],vo C4 78 r2 rs3,vo C4 78 r7 rs8,vo F6 4 r12 y0.2.2.2.1] rfl (by first|rfl|simp only [List.flatten_cons,List.flatten_nil,List.append_nil,List.cons_append,List.nil_append,List.append_assoc]))) fun ⟨⟨⟨r2,rs3⟩,hp6⟩,⟨⟨r7,rs8⟩,hp11⟩,⟨r12,hk13⟩⟩=>?_
 try dsimp only at hp6
 obtain ⟨hk4,hw5⟩:=hp6
 try dsimp only at hp11
 obtain ⟨hk9,hw10⟩:=hp11
 have:=VOk.le hk4
 have:=VOk.le hk9
 have:=VOk.le hk13
 have:=VOk.cap hk4
 have:=VOk.cap hk9
 have:=VOk.cap hk13
 have:=hw5.1
 have:=hw10.1
 have ht_rscreenNew:=A0m cols rows;rw [hy0] at ht_rscreenNew;have hl_rscreenNew:=A5m cols rows;rw [hy0] at hl_rscreenNew
 refine K6 6 0 [0] (fun b14=>[(6,pt b14 0),(7,iv y0.2.2.2.2)]) (fun b14=>(bx b14 (B1 y0.1 ⟨va r2.q,y0.2.1.length,r2.k⟩ ⟨va r7.q,y0.2.2.1.length,r7.k⟩ ⟨none,0,0⟩ ⟨va r12.q,y0.2.2.2.1.length,r12.k⟩) 52::bx b1 (A0 FrmC.zero ⟨none,0,0⟩) 26::(vo C4 78 r2 rs3)++((vo C4 78 r7 rs8)++((vo F6 4 r12 y0.2.2.2.1)++([]))))) (fun b14=>?_)
 refine ie (A4 (sr 2 rfl (ip' 2 0 [(15,bv (!decide (y0.2.2.2.2=0)))] ?_)))
 refine ie ?_
 refine zjn rfl hR ?_ ?_<;>clear hR<;>intro hR h15 h15p
 ·refine sr 3 rfl (zrg 3 0 [1] [(5,iv 2)] (bx b14 (B1 y0.1 ⟨va r2.q,y0.2.1.length,r2.k⟩ ⟨va r7.q,y0.2.2.1.length,r7.k⟩ ⟨none,0,0⟩ ⟨va r12.q,y0.2.2.2.1.length,r12.k⟩) 52::bx b1 (A0 FrmC.zero ⟨none,0,0⟩) 26::(vo C4 78 r2 rs3)++((vo C4 78 r7 rs8)++((vo F6 4 r12 y0.2.2.2.1)++([])))) ?_)
  subst hR
  refine ie (B4 ?_)
  exact zer hr hD (S0 rfl (J1 (us:=A0 FrmC.zero ⟨none,0,0⟩) A6o rfl 1 rfl rfl rfl) (B5 rfl)) ⟨(VR.nil,([]:List Slc)),⟨VOk.nil,C5.none⟩⟩ (mc [[bx b14 (B1 y0.1 ⟨va r2.q,y0.2.1.length,r2.k⟩ ⟨va r7.q,y0.2.2.1.length,r7.k⟩ ⟨none,0,0⟩ ⟨va r12.q,y0.2.2.2.1.length,r12.k⟩) 52],[bx b1 (A0 FrmC.zero ⟨none,0,0⟩) 26],vo C4 78 r2 rs3,vo C4 78 r7 rs8,vo F6 4 r12 y0.2.2.2.1,vo C3 69 VR.nil ([]:List Slc)] [false,false,false,false,false,true] rfl (by first|rfl|(simp only [List.length_set]<;>rfl))) (A5.con1 P6 fn0)
 refine A8 (nx (sr 4 rfl (zrl 1 3 [0] [(17,ag (B1 y0.1 ⟨va r2.q,y0.2.1.length,r2.k⟩ ⟨va r7.q,y0.2.2.1.length,r7.k⟩ ⟨none,0,0⟩ ⟨va r12.q,y0.2.2.2.1.length,r12.k⟩))] ?_)))
 have:=VOk.cap hk4
 have:=VOk.le hk4
 refine P1 [bx b14 (B1 y0.1 ⟨va r2.q,y0.2.1.length,r2.k⟩ ⟨va r7.q,y0.2.2.1.length,r7.k⟩ ⟨none,0,0⟩ ⟨va r12.q,y0.2.2.2.1.length,r12.k⟩) 52,bx b1 (A0 FrmC.zero ⟨none,0,0⟩) 26] ((vo C4 78 r7 rs8)++((vo F6 4 r12 y0.2.2.2.1)++([]))) (T:=78) (c:=C4) (r:=r2) (xs:=rs3) (VOk.cast hk4 (by rw [hw5.1])) (by first|rfl|simp only [List.cons_append,List.append_assoc,List.nil_append,List.append_nil]) ?_
 have:=VOk.cap hk9
 have:=VOk.le hk9
 refine P1 [bx b14 (B1 y0.1 ⟨va r2.q,y0.2.1.length,r2.k⟩ ⟨va r7.q,y0.2.2.1.length,r7.k⟩ ⟨none,0,0⟩ ⟨va r12.q,y0.2.2.2.1.length,r12.k⟩) 52,bx b1 (A0 FrmC.zero ⟨none,0,0⟩) 26] ((vo F6 4 r12 y0.2.2.2.1)++([])) (T:=78) (c:=C4) (r:=r7) (xs:=rs8) (VOk.cast hk9 (by rw [hw10.1])) (by first|rfl|simp only [List.cons_append,List.append_assoc,List.nil_append,List.append_nil]) ?_
 have:=VOk.cap hk13
 have:=VOk.le hk13
 refine P1 [bx b14 (B1 y0.1 ⟨va r2.q,y0.2.1.length,r2.k⟩ ⟨va r7.q,y0.2.2.1.length,r7.k⟩ ⟨none,0,0⟩ ⟨va r12.q,y0.2.2.2.1.length,r12.k⟩) 52,bx b1 (A0 FrmC.zero ⟨none,0,0⟩) 26] [] (T:=4) (c:=F6) (r:=r12) (xs:=y0.2.2.2.1) hk13 (by first|rfl|simp only [List.cons_append,List.append_assoc,List.nil_append,List.append_nil]) ?_
 have hQ:=I2 hR;clear hR;obtain ⟨y1,hy1,hR⟩:=hQ
 refine it rfl (H2 (L2:=[bx b14 (B1 y0.1 ⟨va r2.q,y0.2.1.length,r2.k⟩ ⟨va r7.q,y0.2.2.1.length,r7.k⟩ ⟨none,0,0⟩ ⟨va r12.q,y0.2.2.2.1.length,r12.k⟩) 52,bx b1 (A0 FrmC.zero ⟨none,0,0⟩) 26]) (A7h y0.1 y0.2.1 y0.2.2.1 y0.2.2.2.1 (va r2.q) rs3 r2.k (va r7.q) rs8 r7.k (va r12.q) r12.k hw5 (by first|omega|(simp only [List.length_take,List.length_drop,List.length_append,List.length_cons,List.length_nil,List.length_set,List.length_map,E9];omega)|decide) (by first|omega|(simp only [List.length_take,List.length_drop,List.length_append,List.length_cons,List.length_nil,List.length_set,List.length_map,E9];omega)|decide) hw10 (by first|omega|(simp only [List.length_take,List.length_drop,List.length_append,List.length_cons,List.length_nil,List.length_set,List.length_map,E9];omega)|decide) (by first|omega|(simp only [List.length_take,List.length_drop,List.length_append,List.length_cons,List.length_nil,List.length_set,List.length_map,E9];omega)|decide) (by first|omega|(simp only [List.length_take,List.length_drop,List.length_append,List.length_cons,List.length_nil,List.length_set,List.length_map,E9];omega)|decide) (by first|omega|(simp only [List.length_take,List.length_drop,List.length_append,List.length_cons,List.length_nil,List.length_set,List.length_map,E9];omega)|decide) (by first|omega|(simp only [List.length_nil];omega)) (by first|omega|(simp only [List.length_nil];omega)) y1 hy1) rfl rfl rfl rfl rfl (A5.pick [2,3,1,4,0] rfl) (List.Perm.refl _) (fun ⟨⟨r16,rs17⟩,hp20⟩=>(bx b14 (B1 y0.1 ⟨va r2.q,y0.2.1.length,r2.k⟩ ⟨va r7.q,y0.2.2.1.length,r7.k⟩ ⟨none,0,0⟩ ⟨va r12.q,y0.2.2.2.1.length,r12.k⟩) 52::bx b1 (A0 FrmC.zero ⟨none,0,0⟩) 26::(vo C3 69 r16 rs17)++([]))) (fun ⟨⟨r16,rs17⟩,hp20⟩=>H0 [vo C3 69 r16 rs17,[bx b14 (B1 y0.1 ⟨va r2.q,y0.2.1.length,r2.k⟩ ⟨va r7.q,y0.2.2.1.length,r7.k⟩ ⟨none,0,0⟩ ⟨va r12.q,y0.2.2.2.1.length,r12.k⟩) 52],[bx b1 (A0 FrmC.zero ⟨none,0,0⟩) 26]] [1,2,0] 3 rfl (by decide) (by first|rfl|simp only [List.flatten_cons,List.flatten_nil,List.append_nil,List.cons_append,List.nil_append,List.append_assoc]) [[bx b14 (B1 y0.1 ⟨va r2.q,y0.2.1.length,r2.k⟩ ⟨va r7.q,y0.2.2.1.length,r7.k⟩ ⟨none,0,0⟩ ⟨va r12.q,y0.2.2.2.1.length,r12.k⟩) 52],[bx b1 (A0 FrmC.zero ⟨none,0,0⟩) 26],vo C3 69 r16 rs17] rfl (by first|rfl|simp only [List.flatten_cons,List.flatten_nil,List.append_nil,List.cons_append,List.nil_append,List.append_assoc]))) fun ⟨⟨r16,rs17⟩,hp20⟩=>?_
 try dsimp only at hp20
 obtain ⟨hk18,hw19⟩:=hp20
 have:=VOk.le hk18
 have:=VOk.cap hk18
 have:=hw19.1
 refine zrg 2 0 [1] [(5,iv 0)] (bx b14 (B1 y0.1 ⟨va r2.q,y0.2.1.length,r2.k⟩ ⟨va r7.q,y0.2.2.1.length,r7.k⟩ ⟨none,0,0⟩ ⟨va r12.q,y0.2.2.2.1.length,r12.k⟩) 52::bx b1 (A0 y1.1 ⟨va r16.q,y1.2.length,r16.k⟩) 26::(vo C3 69 r16 rs17)++([])) ?_
 subst hR
 refine ie (B4 ?_)
 exact zer hr hD (S0 rfl (J1 (us:=A0 y1.1 ⟨va r16.q,y1.2.length,r16.k⟩) A6o rfl 1 rfl rfl rfl) (B5 rfl)) ⟨(r16,rs17),⟨hk18,hw19⟩⟩ (mc [[bx b14 (B1 y0.1 ⟨va r2.q,y0.2.1.length,r2.k⟩ ⟨va r7.q,y0.2.2.1.length,r7.k⟩ ⟨none,0,0⟩ ⟨va r12.q,y0.2.2.2.1.length,r12.k⟩) 52],[bx b1 (A0 y1.1 ⟨va r16.q,y1.2.length,r16.k⟩) 26],vo C3 69 r16 rs17] [false,false,true] rfl (by first|rfl|(simp only [List.length_set]<;>rfl))) (A5.con1 (B9 0 rfl) fn0)
end Go.Proofs.YthcjfkljekdioaaGreatDoor
set_option linter.unusedVariables false
set_option linter.unusedSimpArgs false
set_option linter.unnecessarySimpa false
set_option maxRecDepth 100000
namespace Go.Proofs.YthcjfkljekdioaaGreatDoor
open Go Go.Fen
theorem C2t:Zero Tryz.prog 69 [.slice none 0 0]:=⟨by kernel_rfl⟩
def A9o (rows:List (List Cel)) (c:Int):Prop:=(rows.length:Int)≤40∧c≤80∧∀ k,k<rows.length→((rows.getD k []).length:Int)=c
def B6j (i:Int) (f:FrmC) (rows:List (List Cel)) (r c n m:Int):Prop:=A9o rows f.cols∧0≤i∧i<n∧0≤r∧r+n≤rows.length∧0≤c∧2≤m∧c+m≤f.cols
def C2f (i:Int) (p:Plc) (g:FrmC) (gr:List (List Cel)) (f:FrmC) (fr:List (List Cel)):Prop:=A9o fr f.cols∧A9o gr g.cols∧0≤i∧i<fr.length∧0≤p.row∧p.row+gr.length≤fr.length∧0≤p.col∧p.col+g.cols≤f.cols∧0≤g.cols
theorem A9o.of {f:FrmC} {r:List (List Cel)} (h:2≤f.cols∧f.cols≤80∧1≤r.length∧r.length≤40∧∀ i,i<r.length→((r.getD i []).length:Int)=f.cols):A9o r f.cols:=⟨by omega,h.2.1,h.2.2.2.2⟩
def L6 (f:FrmC) (fR:List (List Cel)) (rRow:Int) (rCol:Int) (rRows:Int) (rCols:Int):Bool :=
 ((((((((decide ((0:Int)≤rRow))&&(decide ((1:Int)≤rRows)))&&(decide (rRows≤(fR.length:Int))))&&(decide (rRow≤((fR.length:Int) - rRows))))&&(decide ((0:Int)≤rCol)))&&(decide ((2:Int)≤rCols)))&&(decide (rCols≤f.cols)))&&(decide (rCol≤(f.cols - rCols))))
theorem B0l {f:FrmC} {rows:List (List Cel)} {r c n m:Int} (h:L6 f rows r c n m=true):0≤r∧1≤n∧r+n≤rows.length∧0≤c∧2≤m∧c+m≤f.cols:=by
 unfold L6 at h;simp only [Bool.and_eq_true,decide_eq_true_eq] at h;omega
theorem A7q (f:FrmC) (fR:List (List Cel)) (rRow:Int) (rCol:Int) (rRows:Int) (rCols:Int) (fQ:Option Addr) (fZ:List Slc) (fK:Nat) (hrowsfRowsrs:C5 fZ fR) (hlfRows:fR.length≤9223372036854775807) (hcfRows:fR.length≤fK) (hfc:f.cols≤80) (R:Bool) (hR:L6 f fR rRow rCol rRows rCols=R):M9 Tryz.prog 57 [ag (A0 f ⟨fQ,fR.length,fK⟩),ag [iv rRow,iv rCol,iv rRows,iv rCols]] [sl C3 fQ fZ,E7 B3 fZ fR] (bv R):=by
 refine zco Tryz.func57 [(0,ag (A0 f ⟨fQ,fR.length,fK⟩)),(1,ag [iv rRow,iv rCol,iv rRows,iv rCols])] fun X hX hr hD=>?_
 replace hR:=(L6.eq_1 ..).symm.trans hR
 have:=hrowsfRowsrs.1
 refine sr 3 rfl (B1l 3 0 [] (fun b1 b2=>[(2,pt b1 0),(3,pt b2 0)]) (fun b1 b2=>[bx b2 [iv rRow,iv rCol,iv rRows,iv rCols] 61,bx b1 (A0 f ⟨fQ,fR.length,fK⟩) 26]) (fun b1 b2=>?_))
 refine ie (sr 28 rfl (zrl 4 24 [0] [(9,bv (decide ((0:Int)≤rRow)))] ?_))
 refine zid 4 20 9 13 (decide ((1:Int)≤rRows)) (fun g3 g3p=>?_) ?_
 ·refine zrl 4 0 [0] [(13,bv (decide ((1:Int)≤rRows)))] ?_
  exact zai 2 9 13 g3
 refine ip' 1 19 [(14,bv ((decide ((0:Int)≤rRow))&&(decide ((1:Int)≤rRows))))] ?_
 refine zia 7 12 14 21 (decide (rRows≤(fR.length:Int))) (fun g4=>?_) ?_
 ·have g4p:((0:Int)≤rRow)∧((1:Int)≤rRows):=by simpa using g4
  refine zrl 7 0 [0,1] [(21,bv (decide (rRows≤(fR.length:Int))))] ?_
  exact zai 2 14 21 g4
 refine ip' 1 11 [(22,bv (((decide ((0:Int)≤rRow))&&(decide ((1:Int)≤rRows)))&&(decide (rRows≤(fR.length:Int)))))] ?_
 refine zia 10 1 22 32 (decide (rRow≤((fR.length:Int) - rRows))) (fun g5=>?_) ?_
 ·have g5p:(((0:Int)≤rRow)∧((1:Int)≤rRows))∧(rRows≤(fR.length:Int)):=by simpa using g5
  refine zrl 7 3 [0,1,0] [(24,iv rRow),(27,iv (fR.length:Int)),(29,iv rRows)] ?_
  refine ix rfl (A1m rfl rfl rfl rfl (by omega)) ?_
  refine ip' 2 0 [(32,bv (decide (rRow≤((fR.length:Int) - rRows))))] ?_
  exact zai 6 22 32 g5
 refine ip' 1 0 [(5,bv ((((decide ((0:Int)≤rRow))&&(decide ((1:Int)≤rRows)))&&(decide (rRows≤(fR.length:Int))))&&(decide (rRow≤((fR.length:Int) - rRows)))))] ?_
 refine ie (sr 29 rfl (ip' 2 27 [(34,bv ((((decide ((0:Int)≤rRow))&&(decide ((1:Int)≤rRows)))&&(decide (rRows≤(fR.length:Int))))&&(decide (rRow≤((fR.length:Int) - rRows)))))] ?_))
 refine zia 4 23 34 38 (decide ((0:Int)≤rCol)) (fun g6=>?_) ?_
 ·have g6p:((((0:Int)≤rRow)∧((1:Int)≤rRows))∧(rRows≤(fR.length:Int)))∧(rRow≤((fR.length:Int) - rRows)):=by simpa using g6
  refine zrl 4 0 [0] [(38,bv (decide ((0:Int)≤rCol)))] ?_
  exact zai 2 34 38 g6
 refine ip' 1 22 [(39,bv (((((decide ((0:Int)≤rRow))&&(decide ((1:Int)≤rRows)))&&(decide (rRows≤(fR.length:Int))))&&(decide (rRow≤((fR.length:Int) - rRows))))&&(decide ((0:Int)≤rCol))))] ?_
 refine zia 4 18 39 43 (decide ((2:Int)≤rCols)) (fun g7=>?_) ?_
 ·have g7p:(((((0:Int)≤rRow)∧((1:Int)≤rRows))∧(rRows≤(fR.length:Int)))∧(rRow≤((fR.length:Int) - rRows)))∧((0:Int)≤rCol):=by simpa using g7
  refine zrl 4 0 [0] [(43,bv (decide ((2:Int)≤rCols)))] ?_
  exact zai 2 39 43 g7
 refine ip' 1 17 [(44,bv ((((((decide ((0:Int)≤rRow))&&(decide ((1:Int)≤rRows)))&&(decide (rRows≤(fR.length:Int))))&&(decide (rRow≤((fR.length:Int) - rRows))))&&(decide ((0:Int)≤rCol)))&&(decide ((2:Int)≤rCols))))] ?_
 refine zia 6 11 44 50 (decide (rCols≤f.cols)) (fun g8=>?_) ?_
 ·have g8p:((((((0:Int)≤rRow)∧((1:Int)≤rRows))∧(rRows≤(fR.length:Int)))∧(rRow≤((fR.length:Int) - rRows)))∧((0:Int)≤rCol))∧((2:Int)≤rCols):=by simpa using g8
  refine zrl 6 0 [0,1] [(50,bv (decide (rCols≤f.cols)))] ?_
  exact zai 2 44 50 g8
 refine ip' 1 10 [(51,bv (((((((decide ((0:Int)≤rRow))&&(decide ((1:Int)≤rRows)))&&(decide (rRows≤(fR.length:Int))))&&(decide (rRow≤((fR.length:Int) - rRows))))&&(decide ((0:Int)≤rCol)))&&(decide ((2:Int)≤rCols)))&&(decide (rCols≤f.cols))))] ?_
 refine zia 9 1 51 60 (decide (rCol≤(f.cols - rCols))) (fun g9=>?_) ?_
 ·have g9p:(((((((0:Int)≤rRow)∧((1:Int)≤rRows))∧(rRows≤(fR.length:Int)))∧(rRow≤((fR.length:Int) - rRows)))∧((0:Int)≤rCol))∧((2:Int)≤rCols))∧(rCols≤f.cols):=by simpa using g9
  refine zrl 6 3 [0,1,0] [(53,iv rCol),(55,iv f.cols),(57,iv rCols)] ?_
  refine ix rfl (A1m rfl rfl rfl rfl (by omega)) ?_
  refine ip' 2 0 [(60,bv (decide (rCol≤(f.cols - rCols))))] ?_
  exact zai 6 51 60 g9
 refine ip' 1 0 [(4,bv ((((((((decide ((0:Int)≤rRow))&&(decide ((1:Int)≤rRows)))&&(decide (rRows≤(fR.length:Int))))&&(decide (rRow≤((fR.length:Int) - rRows))))&&(decide ((0:Int)≤rCol)))&&(decide ((2:Int)≤rCols)))&&(decide (rCols≤f.cols)))&&(decide (rCol≤(f.cols - rCols)))))] ?_
 subst hR
 refine ie (B4 ?_)
 exact F8 hr hD
def Q5 (i:Int) (p1:FrmC) (p1Rows:List (List Cel)) (p2Row:Int) (p2Col:Int) (p2Rows:Int) (p2Cols:Int):List Cel :=
 (((p1Rows.getD ((p2Row).toNat+(i).toNat) []).drop ((p2Col).toNat)).take (((p2Col).toNat+(p2Cols).toNat) - ((p2Col).toNat)))
theorem C0m {i:Int} {f:FrmC} {rows:List (List Cel)} {r c n m:Int} (h:B6j i f rows r c n m):(Q5 i f rows r c n m).length≤100:=by
 obtain ⟨⟨h1,h2,h3⟩,h4,h5,h6,h7,h8,h9,h10⟩:=h
 have:=h3 (r+i).toNat (by omega)
 unfold Q5;rw [List.length_take,List.length_drop];omega
theorem B1w (i:Int) (p1:FrmC) (p1Rows:List (List Cel)) (p2Row:Int) (p2Col:Int) (p2Rows:Int) (p2Cols:Int) (p1b:Nat) (p1Rowsq:Option Addr) (p1Rowsrs:List Slc) (p1Rowsk:Nat) (p2b:Nat) (hrowsp1Rowsrs:C5 p1Rowsrs p1Rows) (hlp1Rows:p1Rows.length≤9223372036854775807) (hcp1Rows:p1Rows.length≤p1Rowsk) (hq:B6j i p1 p1Rows p2Row p2Col p2Rows p2Cols) (R:List Cel) (hR:Q5 i p1 p1Rows p2Row p2Col p2Rows p2Cols=R):Con Tryz.prog 59 [iv i,pt p1b 0,pt p2b 0] [bx p1b (A0 p1 ⟨p1Rowsq,p1Rows.length,p1Rowsk⟩) 26,bx p2b [iv p2Row,iv p2Col,iv p2Rows,iv p2Cols] 61] [sl C3 p1Rowsq p1Rowsrs,E7 B3 p1Rowsrs p1Rows] ({t:Option Addr×Nat // R.length≤t.2∧R.length≤9223372036854775807}) (fun x=>.slice x.1.1 R.length x.1.2) (fun x=>[bx p1b (A0 p1 ⟨p1Rowsq,p1Rows.length,p1Rowsk⟩) 26,bx p2b [iv p2Row,iv p2Col,iv p2Rows,iv p2Cols] 61]) (fun x=>[sl B3 x.1.1 R]):=by
 refine zco Tryz.func59 [(0,iv i),(1,pt p1b 0),(2,pt p2b 0)] fun X hX hr hD=>?_
 replace hR:=(Q5.eq_1 ..).symm.trans hR
 have:=hrowsp1Rowsrs.1
 obtain ⟨⟨hq1,hq2,hq3⟩,hq4,hq5,hq6,hq7,hq8,hq9,hq10⟩:=hq
 have hqr:=hq3 (p2Row.toNat+i.toNat) (by omega)
 refine sr 1 rfl (ip' 1 0 [] ?_)
 refine ie (sd 22 rfl (by kernel_rfl) rfl ?_)
 refine zdg 5 17 [0,1] [(6,.slice p1Rowsq p1Rows.length p1Rowsk),(8,iv p2Row),(9,iv i)] ?_
 refine dd rfl (B0 rfl rfl rfl rfl (by omega)) ?_
 refine A2r 0 rfl (by have:=hrowsp1Rowsrs.1;omega) fun a1 hq2=>?_
 refine A4o (K7 (k:=((p2Row).toNat+(i).toNat)) (d:=(⟨none,0,0⟩:Slc)) hrowsp1Rowsrs 1 rfl (by have:=hrowsp1Rowsrs.1;omega)) ?_
 have:=K8 hrowsp1Rowsrs (k:=((p2Row).toNat+(i).toNat)) (d:=(⟨none,0,0⟩:Slc)) (by have:=hrowsp1Rowsrs.1;omega)
 refine dd rfl (F1 S6 rfl rfl hq2 rfl ((p2Row).toNat+(i).toNat) (by omega) (by omega)) ?_
 refine dd rfl (F5 (D6 (v:=.slice ((p1Rowsrs.getD ((p2Row).toNat+(i).toNat) (⟨none,0,0⟩:Slc)).q) ((p1Rowsrs.getD ((p2Row).toNat+(i).toNat) (⟨none,0,0⟩:Slc)).n) ((p1Rowsrs.getD ((p2Row).toNat+(i).toNat) (⟨none,0,0⟩:Slc)).k)) (us:=[.slice ((p1Rowsrs.getD ((p2Row).toNat+(i).toNat) (⟨none,0,0⟩:Slc)).q) ((p1Rowsrs.getD ((p2Row).toNat+(i).toNat) (⟨none,0,0⟩:Slc)).n) ((p1Rowsrs.getD ((p2Row).toNat+(i).toNat) (⟨none,0,0⟩:Slc)).k)]) A1k rfl rfl (G6 (c:=C3) (sz:=1) hq2 (fun _=>rfl) 1 rfl (gd (⟨none,0,0⟩:Slc) (by have:=hrowsp1Rowsrs.1;omega))) rfl) (M3 hrowsp1Rowsrs (by have:=hrowsp1Rowsrs.1;omega))) ?_
 refine zdg 6 8 [1,1,1] [(14,iv p2Col),(16,iv p2Col),(18,iv p2Cols)] ?_
 refine dd rfl (B0 rfl rfl rfl rfl (by omega)) ?_
 refine zdg 4 3 [1,1] [(21,iv p2Col),(23,iv p2Cols)] ?_
 refine dd rfl (B0 rfl rfl rfl rfl (by omega)) ?_
 refine A4o (C1q (c:=B3) (sz:=12) (xs:=(p1Rows.getD ((p2Row).toNat+(i).toNat) [])) (B9 0 rfl) ((p2Col).toNat) ((p2Col).toNat+(p2Cols).toNat) ((p2Col).toNat+(p2Cols).toNat) (fun _=>rfl) rfl (by omega) (by omega)) ?_
 refine dd rfl (A2k (n':=(((p1Rows.getD ((p2Row).toNat+(i).toNat) []).drop ((p2Col).toNat)).take (((p2Col).toNat+(p2Cols).toNat) - ((p2Col).toNat))).length) Q8 rfl rfl ((p2Col).toNat) ((p2Col).toNat+(p2Cols).toNat) ((p2Col).toNat+(p2Cols).toNat) (Q3 rfl (by omega)) (Q3 rfl (by omega)) (Q3 rfl (by omega)) (by omega) (by omega) (by omega) (by first|rfl|omega|(simp only [List.length_take,List.length_drop];omega)|(simp;done)) rfl) ?_
 have:=@List.length_drop _ ((p2Col).toNat) (p1Rows.getD ((p2Row).toNat+(i).toNat) [])
 have:=@List.length_take _ (((p2Col).toNat+(p2Cols).toNat) - ((p2Col).toNat)) ((p1Rows.getD ((p2Row).toNat+(i).toNat) []).drop ((p2Col).toNat))
 refine dp' 1 0 [(4,.slice (A2d ((p1Rowsrs.getD ((p2Row).toNat+(i).toNat) (⟨none,0,0⟩:Slc)).q) ((p2Col).toNat) 12 ((p2Col).toNat+(p2Cols).toNat)) ((((p1Rows.getD ((p2Row).toNat+(i).toNat) []).drop ((p2Col).toNat)).take (((p2Col).toNat+(p2Cols).toNat) - ((p2Col).toNat))).length) (((p2Col).toNat+(p2Cols).toNat) - ((p2Col).toNat)))] ?_
 subst hR
 refine de (B4 ?_)
 exact zer hr hD (R1 rfl (B5 rfl)) (zq (A2d ((p1Rowsrs.getD ((p2Row).toNat+(i).toNat) (⟨none,0,0⟩:Slc)).q) ((p2Col).toNat) 12 ((p2Col).toNat+(p2Cols).toNat)) (((p2Col).toNat+(p2Cols).toNat) - ((p2Col).toNat))) (mk [true,true] rfl) (A5.con1 (B9 0 rfl) fn0)
def H6 (ofc:FrmC) (ofcRows:List (List Cel)) (ofcRow:Int) (ofcCol:Int) (ofcRows1:Int) (ofcCols:Int):List (List Cel)→List (List Cel)→Nat→List (List Cel)
 | [],out,t11=>out
 | hd_l0::tl_l0,out,t11=>(H3 (Q5 (t11:Int) ofc ofcRows ofcRow ofcCol ofcRows1 ofcCols) fun (y2:List Cel)=>H6 ofc ofcRows ofcRow ofcCol ofcRows1 ofcCols tl_l0 (out.set t11 y2) (t11+1))
def J7 (n:Int) (ofc:FrmC) (ofcRows:List (List Cel)) (ofcRow:Int) (ofcCol:Int) (ofcRows1:Int) (ofcCols:Int):List (List Cel) :=
 H6 ofc ofcRows ofcRow ofcCol ofcRows1 ofcCols (List.replicate ((n).toNat) ([]:List Cel)) (List.replicate ((n).toNat) ([]:List Cel)) 0
theorem V3 (o:FrmC) (oR:List (List Cel)) (a b c d:Int):∀ (tl out:List (List Cel)) (t:Nat),out.length=t+tl.length→H6 o oR a b c d tl out t=out.take t++(List.range' t tl.length).map (fun (i:Nat)=>Q5 (i:Int) o oR a b c d)
 | [],out,t,h=>by simp only [H6,List.length_nil,List.range'_zero,List.map_nil,List.append_nil];rw [List.take_of_length_le (by simp at h;omega)]
 | _::tl,out,t,h=>by
  have hlt:t<out.length:=by simp at h;omega
  simp only [H6,H3]
  rw [V3 o oR a b c d tl _ (t+1) (by simp at h ⊢;omega),List.take_add_one,List.take_set_of_le (Nat.le_refl _),List.getElem?_set_self hlt,List.length_cons,List.range'_succ]
  simp
theorem Y5 (n:Int) (o:FrmC) (oR:List (List Cel)) (a b c d:Int):J7 n o oR a b c d=(List.range n.toNat).map (fun (i:Nat)=>Q5 (i:Int) o oR a b c d):=by
 unfold J7
 rw [V3 o oR a b c d _ _ 0 (by simp),List.range_eq_range'];simp
theorem A4l (n:Int) (o:FrmC) (oR:List (List Cel)) (a b c d:Int) (h:∀ i,0≤i∧i<n→B6j i o oR a b c d):∀ k,k<(J7 n o oR a b c d).length→((J7 n o oR a b c d).getD k []).length≤100:=by
 rw [Y5]
 intro k hk
 have hk':k<n.toNat:=by simpa using hk
 rw [List.getD_eq_getElem?_getD,List.getElem?_map,List.getElem?_range hk']
 exact C0m (h (k:Int) (by omega))
theorem A4k (n:Int) (ofc:FrmC) (ofcRows:List (List Cel)) (ofcRow:Int) (ofcCol:Int) (ofcRows1:Int) (ofcCols:Int) (ofcb:Nat) (ofcRowsq:Option Addr) (ofcRowsrs:List Slc) (ofcRowsk:Nat) (ofcb1:Nat) (hrowsofcRowsrs:C5 ofcRowsrs ofcRows) (hlofcRows:ofcRows.length≤9223372036854775807) (hcofcRows:ofcRows.length≤ofcRowsk) (hq:0≤n∧n≤40∧∀ i,0≤i∧i<n→B6j i ofc ofcRows ofcRow ofcCol ofcRows1 ofcCols) (R:List (List Cel)) (hR:J7 n ofc ofcRows ofcRow ofcCol ofcRows1 ofcCols=R):Con Tryz.prog 58 [iv n,.func (.func 59) #[] #[pt ofcb 0,pt ofcb1 0]] [bx ofcb (A0 ofc ⟨ofcRowsq,ofcRows.length,ofcRowsk⟩) 26,bx ofcb1 [iv ofcRow,iv ofcCol,iv ofcRows1,iv ofcCols] 61] [sl C3 ofcRowsq ofcRowsrs,E7 B3 ofcRowsrs ofcRows] ({t:VR×List Slc // VOk 1 R.length t.1∧C5 t.2 R}) (fun x=>.slice (va x.1.1.q) R.length x.1.1.k) (fun x=>(bx ofcb (A0 ofc ⟨ofcRowsq,ofcRows.length,ofcRowsk⟩) 26::bx ofcb1 [iv ofcRow,iv ofcCol,iv ofcRows1,iv ofcCols] 61::(vo C3 69 x.1.1 x.1.2)++([]))) (fun x=>[E7 B3 x.1.2 R]):=by
 refine zco Tryz.func58 [(0,iv n),(1,.func (.func 59) #[] #[pt ofcb 0,pt ofcb1 0])] fun X hX hr hD=>?_
 replace hR:=(J7.eq_1 ..).symm.trans hR
 have:=hrowsofcRowsrs.1
 refine sr 1 rfl (ip' 1 0 [] ?_)
 refine ie (sr 3 rfl (ip' 1 2 [(7,iv n)] ?_))
 refine G5 (q:=E7 B3 (List.replicate ((n).toNat) (⟨none,0,0⟩:Slc)) (List.replicate ((n).toNat) ([]:List Cel))) B2b ?_
 refine it rfl (B3n (β:=Cel) (l:=(n).toNat) (c:=(n).toNat) C1i C2t.ok rfl (by exact congrArg (fun z=>some (Value.int .i64 z)) (show n=(((n).toNat:Nat):Int) by omega)) (by exact congrArg (fun z=>some (Value.int .i64 z)) (show n=(((n).toNat:Nat):Int) by omega)) (by omega) (by first|omega|(simp only [List.length_cons,List.length_nil,List.length_append,List.length_take,List.length_drop];omega)) (by omega)) fun ⟨r1,hr2⟩=>?_
 have:=VOk.le hr2
 have:=VOk.cap hr2
 have:(List.replicate ((n).toNat) ([]:List Cel)).length=(n).toNat:=List.length_replicate
 refine ip' 1 0 [(5,.slice (va r1.q) ((List.replicate ((n).toNat) ([]:List Cel)).length) r1.k)] ?_
 refine ie (A4 (sr 3 rfl (ip' 3 0 [(10,iv ((List.replicate ((n).toNat) ([]:List Cel)).length:Int)),(11,iv 0)] ?_)))
 refine ie (A9 ?_)
 refine B3d (fun (out:List (List Cel)) (outr:VR) (outrs:List Slc) (t11:Nat)=>(t11≤(List.replicate ((n).toNat) ([]:List Cel)).length∧H6 ofc ofcRows ofcRow ofcCol ofcRows1 ofcCols ((List.replicate ((n).toNat) ([]:List Cel)).drop t11) out t11=R∧VOk 1 out.length outr∧C5 outrs out∧out.length=n.toNat,[(1,.func (.func 59) #[] #[pt ofcb 0,pt ofcb1 0]),(5,.slice (va outr.q) out.length outr.k),(10,iv ((List.replicate ((n).toNat) ([]:List Cel)).length:Int)),(11,iv (t11:Int))],(bx ofcb (A0 ofc ⟨ofcRowsq,ofcRows.length,ofcRowsk⟩) 26::bx ofcb1 [iv ofcRow,iv ofcCol,iv ofcRows1,iv ofcCols] 61::(vo C3 69 outr outrs)++([])),[E7 B3 (List.replicate ((n).toNat) (⟨none,0,0⟩:Slc)) (List.replicate ((n).toNat) ([]:List Cel)),sl C3 ofcRowsq ofcRowsrs,E7 B3 ofcRowsrs ofcRows,E7 B3 outrs out],(List.replicate ((n).toNat) ([]:List Cel)).length - t11)) (List.replicate ((n).toNat) ([]:List Cel)) r1 (List.replicate ((n).toNat) (⟨none,0,0⟩:Slc)) 0 ⟨(by omega),hR,hr2,(C5.rep ((n).toNat)),(by exact List.length_replicate)⟩ (mc [[bx ofcb (A0 ofc ⟨ofcRowsq,ofcRows.length,ofcRowsk⟩) 26],[bx ofcb1 [iv ofcRow,iv ofcCol,iv ofcRows1,iv ofcCols] 61],vo C3 69 r1 (List.replicate ((n).toNat) (⟨none,0,0⟩:Slc))] [true,true,true] rfl (by first|rfl|(simp only [List.length_set]<;>rfl))) (A5.pick [0,1,2,0] rfl) ?_
 rintro out outr outrs t11 ⟨hm3,hR,hokoutr,hrowsoutrs,hll⟩
 have:=VOk.le hokoutr
 have:=hrowsoutrs.1
 have:(List.replicate (n.toNat) ([]:List Cel)).length=n.toNat:=List.length_replicate
 have hqj:=fun (hh:(t11:Int)<n)=>hq.2.2 (t11:Int) ⟨by omega,hh⟩
 refine sr 1 rfl (ip' 1 0 [(12,bv (decide ((t11:Int)<((List.replicate ((n).toNat) ([]:List Cel)).length:Int))))] ?_)
 refine ie (A4 (R3 rfl (fun h4=>?_) (fun h4=>?_)))
 ·have h4p:(t11:Int)<((List.replicate ((n).toNat) ([]:List Cel)).length:Int):=by simpa using h4
  rw [R9 [] (show t11<(List.replicate ((n).toNat) ([]:List Cel)).length by omega)] at hR;replace hR:=(H6.eq_2 ..).symm.trans hR
  refine A8 (nx (A4 (A9 (sr 2 rfl (ip' 2 0 [(6,iv (t11:Int))] ?_)))))
  refine ie (A1 7 rfl (ip' 4 3 [(14,.slice (va outr.q) out.length outr.k),(15,iv (t11:Int)),(16,.func (.func 59) #[] #[pt ofcb 0,pt ofcb1 0]),(17,iv (t11:Int))] ?_))
  have hQ:=I2 hR;clear hR;obtain ⟨y2,hy2,hR⟩:=hQ
  refine it rfl (G9 (L2:=((vo C3 69 outr outrs)++([]))) (B1w (t11:Int) ofc ofcRows ofcRow ofcCol ofcRows1 ofcCols ofcb ofcRowsq ofcRowsrs ofcRowsk ofcb1 hrowsofcRowsrs (by first|omega|(simp only [List.length_take,List.length_drop,List.length_append,List.length_cons,List.length_nil,List.length_set,List.length_map];omega)|decide) (by first|omega|(simp only [List.length_take,List.length_drop,List.length_append,List.length_cons,List.length_nil,List.length_set,List.length_map];omega)|decide) (by exact hqj (by omega)) y2 hy2) rfl rfl rfl rfl rfl (A5.pick [1,2] rfl) (H0 [[bx ofcb (A0 ofc ⟨ofcRowsq,ofcRows.length,ofcRowsk⟩) 26],[bx ofcb1 [iv ofcRow,iv ofcCol,iv ofcRows1,iv ofcCols] 61],vo C3 69 outr outrs] [0,1,2] 3 rfl (by decide) rfl [[bx ofcb (A0 ofc ⟨ofcRowsq,ofcRows.length,ofcRowsk⟩) 26],[bx ofcb1 [iv ofcRow,iv ofcCol,iv ofcRows1,iv ofcCols] 61],vo C3 69 outr outrs] rfl (by first|rfl|simp only [List.flatten_cons,List.flatten_nil,List.append_nil,List.cons_append,List.nil_append,List.append_assoc])) (fun ⟨⟨q5,k6⟩,hp7⟩=>(bx ofcb (A0 ofc ⟨ofcRowsq,ofcRows.length,ofcRowsk⟩) 26::bx ofcb1 [iv ofcRow,iv ofcCol,iv ofcRows1,iv ofcCols] 61::(vo C3 69 outr outrs)++([]))) (fun _=>by first|rfl|simp only [List.append_nil,List.cons_append,List.nil_append,List.append_assoc])) fun ⟨⟨q5,k6⟩,hp7⟩=>?_
  obtain ⟨hc8,hl9⟩:=hp7
  obtain ⟨b10,hb11⟩:=VOk.some hokoutr (by omega)
  obtain ⟨q12,k13,j14⟩:=outr
  obtain rfl:q12=some b10:=hb11
  refine G5 (K7 (k:=t11) (d:=(⟨none,0,0⟩:Slc)) hrowsoutrs 4 rfl (by have:=hrowsoutrs.1;omega)) ?_
  have:=K8 hrowsoutrs (k:=t11) (d:=(⟨none,0,0⟩:Slc)) (by have:=hrowsoutrs.1;omega)
  refine ix rfl (W7 S6 rfl rfl rfl t11 rfl (by have:=hrowsoutrs.1;omega)) ?_
  have hw15:C5 (outrs.set t11 (⟨q5,y2.length,k6⟩:Slc)) (out.set t11 y2):=C5.set hrowsoutrs t11 ⟨rfl,(by first|omega|(simp only [List.length_take,List.length_drop,List.length_append,List.length_cons,List.length_nil,List.length_set,List.length_map];omega)|decide),(by first|omega|(simp only [List.length_take,List.length_drop,List.length_append,List.length_cons,List.length_nil,List.length_set,List.length_map];omega)|decide)⟩
  refine G5 (A7n t11 (r:=(⟨q5,y2.length,k6⟩:Slc)) (xs:=y2) (B9 5 rfl) (B9 1 rfl)) ?_
  refine it rfl (S8 (us:=[.slice q5 y2.length k6]) (u':=(⟨q5,y2.length,k6⟩:Slc)) (c:=C3) (sz:=1) A1k (fun _=>rfl) rfl rfl rfl 2 rfl rfl rfl rfl t11 0 rfl (gd (⟨none,0,0⟩:Slc) (by have:=hrowsoutrs.1;omega)) rfl rfl) fun _=>?_
  refine A6 (nx (A1 2 rfl (ix rfl (B0 rfl rfl rfl rfl (by omega)) ?_)))
  refine ip' 1 0 [(11,iv ((t11:Int)+1))] ?_
  refine A6 ?_
  exact B3a (z1:=out) (z2:=(⟨some b10,k13,j14⟩:VR)) (z3:=outrs) (z4:=t11) (out.set t11 y2) (⟨some b10,k13,j14⟩:VR) (outrs.set t11 (⟨q5,y2.length,k6⟩:Slc)) (t11+1) ⟨(by omega),hR,(VOk.cast hokoutr (by simp)),hw15,(by (rw [List.length_set];exact hll))⟩ (by (try dsimp only);omega) (mc [[bx ofcb (A0 ofc ⟨ofcRowsq,ofcRows.length,ofcRowsk⟩) 26],[bx ofcb1 [iv ofcRow,iv ofcCol,iv ofcRows1,iv ofcCols] 61],vo C3 69 (⟨some b10,k13,j14⟩:VR) (outrs.set t11 (⟨q5,y2.length,k6⟩:Slc))] [true,true,true] rfl (by first|rfl|(simp only [List.length_set]<;>rfl))) (A5.pick [3,4,5,0] rfl)
 have h4p:¬ ((t11:Int)<((List.replicate ((n).toNat) ([]:List Cel)).length:Int)):=by simpa using h4
 rw [R8 h4p] at hR;replace hR:=(H6.eq_1 ..).symm.trans hR
 refine F3 (nx (sr 2 rfl (ip' 2 0 [(4,.slice (va outr.q) out.length outr.k)] ?_)))
 subst hR
 refine ie (B4 ?_)
 exact zer hr hD (R1 rfl (B5 rfl)) ⟨(outr,outrs),⟨hokoutr,hrowsoutrs⟩⟩ (mc [[bx ofcb (A0 ofc ⟨ofcRowsq,ofcRows.length,ofcRowsk⟩) 26],[bx ofcb1 [iv ofcRow,iv ofcCol,iv ofcRows1,iv ofcCols] 61],vo C3 69 outr outrs] [true,true,true] rfl (by first|rfl|(simp only [List.length_set]<;>rfl))) (A5.con1 (B9 3 rfl) fn0)
def I3 (s:List Cel):List Cel :=
 (([]:List Cel)++s)
theorem P2 (s:List Cel):I3 s=s:=by simp [I3]
theorem Y8 (s:List Cel) (sq:Option Addr) (sk:Nat) (hls:s.length≤9223372036854775807) (hcs:s.length≤sk) (hs:s.length≤1000000) (R:List Cel) (hR:I3 s=R):Con Tryz.prog 100 [.slice sq s.length sk] [] [sl B3 sq s] ({r:VR // VOk 12 R.length r}) (fun x=>.slice (va x.1.q) R.length x.1.k) (fun x=>((vo B3 72 x.1 R)++([]))) (fun x=>[]):=by
 refine zco Tryz.func100 [(0,.slice sq s.length sk)] fun X hX hr hD=>?_
 replace hR:=(I3.eq_1 ..).symm.trans hR
 refine sr 1 rfl (ip' 1 0 [] ?_)
 refine ie (A4 (sr 2 rfl (ip' 1 1 [(3,.slice sq s.length sk)] ?_)))
 refine ix rfl (C4c Tryz.underlying69 rfl rfl rfl) ?_
 refine ie (R3 rfl (fun h1=>?_) (fun h1=>?_))
 ·refine C7c 0 rfl (Option.isNone_iff_eq_none.1 h1) fun hx2=>?_
  replace hR:([]:List Cel)=R:=by rw [← hR];simp [hx2]
  refine sr 1 rfl (ip' 1 0 [(2,.slice none 0 0)] ?_)
  subst hR
  refine ie (B4 ?_)
  exact zer hr hD (R1 rfl (B5 rfl)) ⟨VR.nil,VOk.nil⟩ (mc [vo B3 72 VR.nil ([]:List Cel)] [true] rfl (by first|rfl|(simp only [List.length_set]<;>rfl))) fn0
 ·refine A8 (nx (sr 4 rfl (it rfl (B5s Q8 rfl rfl) fun b3=>?_)))
  have:([]:List Cel).length=0:=rfl
  refine ip' 1 2 [(6,.slice sq s.length sk)] ?_
  refine it rfl (A5g (f:=B3) (r:=(⟨some b3,0,[]⟩:VR)) (xs:=([]:List Cel)) (ys:=s) (pre:=[]) (post:=[]) B8p (fun _=>rfl) (fun _=>rfl) rfl rfl rfl rfl rfl rfl rfl rfl (B9 0 rfl) (show VOk 12 0 _ from ⟨rfl,Nat.zero_le _,Nat.zero_le _⟩) (by first|omega|(simp only [List.length_cons,List.length_nil,List.length_append,List.length_take,List.length_drop];omega)) (by first|omega|(simp only [List.length_cons,List.length_nil,List.length_append,List.length_take,List.length_drop];omega))) fun ⟨r4,hr5⟩=>?_
  have:=VOk.le hr5
  have:=VOk.cap hr5
  refine ip' 1 0 [(2,.slice (va r4.q) ((([]:List Cel)++s).length) r4.k)] ?_
  subst hR
  refine ie (B4 ?_)
  exact zer hr hD (R1 rfl (B5 rfl)) ⟨r4,hr5⟩ (mc [vo B3 72 r4 (([]:List Cel)++s)] [true] rfl (by first|rfl|(simp only [List.length_set]<;>rfl))) fn0
theorem C8q {t:List (List Cel)} (h:∀ k,k<t.length→(t.getD k []).length≤100) {o:List Cel} (ho:o.length≤100) (i:Nat):∀ k,k<(t.set i o).length→((t.set i o).getD k []).length≤100:=fun k hk=>by
 have hk':k<t.length:=by simpa using hk
 have:=h k hk'
 rw [List.getD_eq_getElem?_getD,List.getElem?_set]
 rw [List.getD_eq_getElem?_getD] at this
 split
 ·split
  ·exact ho
  ·exact Nat.zero_le _
 ·exact this
def G3 (t12:List (List Cel)) (t14:Nat) (ag_frame_canvas_halves_l3:List (List Cel)→Nat→List (List Cel)):List Cel→List Cel→Nat→List (List Cel)
 | [],own,t23=>ag_frame_canvas_halves_l3 (t12.set t14 own) (t14+1)
 | hd_l4::tl_l4,own,t23=>(bif (((decide (hd_l4.wide=1))&&((decide (((t23:Int)+1)=((t12.getD t14 []).length:Int)))||(!decide (((t12.getD t14 []).getD (t23+1) Cel.zero).wide=2))))||((decide (hd_l4.wide=2))&&((decide ((t23:Int)=0))||(!decide (((t12.getD t14 []).getD (t23 - 1) Cel.zero).wide=1))))) then G3 t12 t14 ag_frame_canvas_halves_l3 tl_l4 (own.set t23 ({Cel.zero with base:=32,sty:=hd_l4.sty})) (t23+1) else G3 t12 t14 ag_frame_canvas_halves_l3 tl_l4 own (t23+1))
def G4:List (List Cel)→List (List Cel)→Nat→List (List Cel)
 | [],t12,t14=>t12
 | hd_l3::tl_l3,t12,t14=>(H3 (I3 (t12.getD t14 [])) fun (y1:List Cel)=>G3 t12 t14 (G4 tl_l3) (t12.getD t14 []) y1 0)
def J6 (c:FrmC) (cRows:List (List Cel)):List (List Cel) :=
 G4 cRows cRows 0
theorem Z9 (c:FrmC) (cRows:List (List Cel)) (cb:Nat) (cRowsr:VR) (cRowsrs:List Slc) (hokcRowsr:VOk 1 cRows.length cRowsr) (hrowscRowsrs:C5 cRowsrs cRows) (hw0:∀ k,k<cRows.length→(cRows.getD k []).length≤100) (R:List (List Cel)) (hR:J6 c cRows=R):Con Tryz.prog 60 [pt cb 0] (bx cb (A0 c ⟨va cRowsr.q,cRows.length,cRowsr.k⟩) 106::(vo C3 69 cRowsr cRowsrs)++([])) [E7 B3 cRowsrs cRows] ({t:VR×List Slc // VOk 1 R.length t.1∧C5 t.2 R}) (fun x=>.tuple #[]) (fun x=>(bx cb (A0 c ⟨va x.1.1.q,R.length,x.1.1.k⟩) 106::(vo C3 69 x.1.1 x.1.2)++([]))) (fun x=>[E7 B3 x.1.2 R]):=by
 refine zco Tryz.func60 [(0,pt cb 0)] fun X hX hr hD=>?_
 replace hR:=(J6.eq_1 ..).symm.trans hR
 have:=VOk.le hokcRowsr
 have:=hrowscRowsrs.1
 refine sr 7 rfl (zrl 7 0 [0] [(12,.slice (va cRowsr.q) cRows.length cRowsr.k),(13,iv (cRows.length:Int)),(14,iv 0)] ?_)
 refine ie (A9 ?_)
 refine B3d (fun (t12:List (List Cel)) (t12r:VR) (t12rs:List Slc) (t14:Nat)=>(t14≤cRows.length∧G4 (cRows.drop t14) t12 t14=R∧VOk 1 t12.length t12r∧C5 t12rs t12∧t12.length=cRows.length∧∀ k,k<t12.length→(t12.getD k []).length≤100,[(0,pt cb 0),(12,.slice (va t12r.q) t12.length t12r.k),(13,iv (cRows.length:Int)),(14,iv (t14:Int))],(bx cb (A0 c ⟨va t12r.q,t12.length,t12r.k⟩) 106::(vo C3 69 t12r t12rs)++([])),[E7 B3 cRowsrs cRows,E7 B3 t12rs t12],cRows.length - t14)) cRows cRowsr cRowsrs 0 ⟨(by omega),hR,hokcRowsr,hrowscRowsrs,(by rfl),(by exact hw0)⟩ (mc [[bx cb (A0 c ⟨va cRowsr.q,cRows.length,cRowsr.k⟩) 106],vo C3 69 cRowsr cRowsrs] [true,true] rfl (by first|rfl|(simp only [List.length_set]<;>rfl))) (A5.pick [0,0] rfl) ?_
 rintro t12 t12r t12rs t14 ⟨hm1,hR,hokt12r,hrowst12rs,hln,hw⟩
 have:=VOk.le hokt12r
 have:=hrowst12rs.1
 have hwt:=fun h=>hw t14 h
 refine sr 1 rfl (ip' 1 0 [(15,bv (decide ((t14:Int)<(cRows.length:Int))))] ?_)
 refine ie (A4 (R3 rfl (fun h2=>?_) (fun h2=>?_)))
 ·have h2p:(t14:Int)<(cRows.length:Int):=by simpa using h2
  rw [R9 [] (show t14<cRows.length by omega)] at hR;replace hR:=(G4.eq_2 ..).symm.trans hR
  refine A8 (nx (A4 (A9 (sr 5 rfl (ip' 1 4 [(16,iv (t14:Int))] ?_)))))
  obtain ⟨b3,hb4⟩:=VOk.some hokt12r (by omega)
  obtain ⟨q5,k6,j7⟩:=t12r
  obtain rfl:q5=some b3:=hb4
  refine G5 (K7 (k:=t14) (d:=(⟨none,0,0⟩:Slc)) hrowst12rs 1 rfl (by have:=hrowst12rs.1;omega)) ?_
  have:=K8 hrowst12rs (k:=t14) (d:=(⟨none,0,0⟩:Slc)) (by have:=hrowst12rs.1;omega)
  refine ix rfl (W7 S6 rfl rfl rfl t14 rfl (by have:=hrowst12rs.1;omega)) ?_
  refine ix rfl (F5 (A9y (u:=.slice ((t12rs.getD t14 (⟨none,0,0⟩:Slc)).q) ((t12rs.getD t14 (⟨none,0,0⟩:Slc)).n) ((t12rs.getD t14 (⟨none,0,0⟩:Slc)).k)) (c:=C3) (sz:=1) A1k (fun _=>rfl) rfl rfl 1 rfl t14 0 rfl (gd (⟨none,0,0⟩:Slc) (by have:=hrowst12rs.1;omega)) rfl) (M3 hrowst12rs (by have:=hrowst12rs.1;omega))) ?_
  refine ip' 2 0 [(2,iv (t14:Int)),(3,.slice ((t12rs.getD t14 (⟨none,0,0⟩:Slc)).q) ((t12.getD t14 []).length) ((t12rs.getD t14 (⟨none,0,0⟩:Slc)).k))] ?_
  refine ie (sr 3 rfl (ip' 1 2 [(19,.slice ((t12rs.getD t14 (⟨none,0,0⟩:Slc)).q) ((t12.getD t14 []).length) ((t12rs.getD t14 (⟨none,0,0⟩:Slc)).k))] ?_))
  have hQ:=I2 hR;clear hR;obtain ⟨y1,hy1,hR⟩:=hQ
  refine it rfl (H2 (L2:=(bx cb (A0 c ⟨va (⟨some b3,k6,j7⟩:VR).q,t12.length,(⟨some b3,k6,j7⟩:VR).k⟩) 106::(vo C3 69 (⟨some b3,k6,j7⟩:VR) t12rs)++([]))) (Y8 (t12.getD t14 []) ((t12rs.getD t14 (⟨none,0,0⟩:Slc)).q) ((t12rs.getD t14 (⟨none,0,0⟩:Slc)).k) (by first|omega|(simp only [List.length_take,List.length_drop,List.length_append,List.length_cons,List.length_nil,List.length_set,List.length_map];omega)|decide) (by first|omega|(simp only [List.length_take,List.length_drop,List.length_append,List.length_cons,List.length_nil,List.length_set,List.length_map];omega)|decide) (by first|omega|(simp only [List.length_append,List.length_cons,List.length_nil,List.length_take,List.length_drop,List.length_set];omega)) y1 hy1) rfl rfl rfl rfl rfl (A5.pick [0] rfl) (List.Perm.refl _) (fun ⟨r8,hk9⟩=>(bx cb (A0 c ⟨va (⟨some b3,k6,j7⟩:VR).q,t12.length,(⟨some b3,k6,j7⟩:VR).k⟩) 106::(vo B3 72 r8 y1)++((vo C3 69 (⟨some b3,k6,j7⟩:VR) t12rs)++([])))) (fun ⟨r8,hk9⟩=>H0 [vo B3 72 r8 y1,[bx cb (A0 c ⟨va (⟨some b3,k6,j7⟩:VR).q,t12.length,(⟨some b3,k6,j7⟩:VR).k⟩) 106],vo C3 69 (⟨some b3,k6,j7⟩:VR) t12rs] [1,0,2] 3 rfl (by decide) (by first|rfl|simp only [List.flatten_cons,List.flatten_nil,List.append_nil,List.cons_append,List.nil_append,List.append_assoc]) [[bx cb (A0 c ⟨va (⟨some b3,k6,j7⟩:VR).q,t12.length,(⟨some b3,k6,j7⟩:VR).k⟩) 106],vo B3 72 r8 y1,vo C3 69 (⟨some b3,k6,j7⟩:VR) t12rs] rfl (by first|rfl|simp only [List.flatten_cons,List.flatten_nil,List.append_nil,List.cons_append,List.nil_append,List.append_assoc]))) fun ⟨r8,hk9⟩=>?_
  have:=VOk.le hk9
  have:=VOk.cap hk9
  have hcl_rslicesCloneapiCellapiCell:=P2 (t12.getD t14 []);rw [hy1] at hcl_rslicesCloneapiCellapiCell;have:=congrArg List.length hcl_rslicesCloneapiCellapiCell;try simp only [List.length_take,List.length_drop] at this
  refine ip' 1 0 [(4,.slice (va r8.q) y1.length r8.k)] ?_
  refine ie (A4 (sr 3 rfl (ip' 3 0 [(21,.slice ((t12rs.getD t14 (⟨none,0,0⟩:Slc)).q) ((t12.getD t14 []).length) ((t12rs.getD t14 (⟨none,0,0⟩:Slc)).k)),(22,iv ((t12.getD t14 []).length:Int)),(23,iv 0)] ?_)))
  refine ie (A9 (Z1 (H0 [[bx cb (A0 c ⟨va (⟨some b3,k6,j7⟩:VR).q,t12.length,(⟨some b3,k6,j7⟩:VR).k⟩) 106],vo B3 72 r8 y1,vo C3 69 (⟨some b3,k6,j7⟩:VR) t12rs] [0,2,1] 3 rfl (by decide) rfl [[bx cb (A0 c ⟨va (⟨some b3,k6,j7⟩:VR).q,t12.length,(⟨some b3,k6,j7⟩:VR).k⟩) 106],vo C3 69 (⟨some b3,k6,j7⟩:VR) t12rs,vo B3 72 r8 y1] rfl (by first|rfl|simp)) ?_))
  refine C4z (fun (own:List Cel) (ownr:VR) (t23:Nat)=>(t23≤(t12.getD t14 []).length∧G3 t12 t14 (G4 (cRows.drop (t14+1))) ((t12.getD t14 []).drop t23) own t23=R∧VOk 12 own.length ownr∧own.length=(t12.getD t14 []).length,[(0,pt cb 0),(2,iv (t14:Int)),(3,.slice ((t12rs.getD t14 (⟨none,0,0⟩:Slc)).q) ((t12.getD t14 []).length) ((t12rs.getD t14 (⟨none,0,0⟩:Slc)).k)),(4,.slice (va ownr.q) own.length ownr.k),(12,.slice (va (⟨some b3,k6,j7⟩:VR).q) t12.length ((⟨some b3,k6,j7⟩:VR).k)),(13,iv (cRows.length:Int)),(14,iv (t14:Int)),(21,.slice ((t12rs.getD t14 (⟨none,0,0⟩:Slc)).q) ((t12.getD t14 []).length) ((t12rs.getD t14 (⟨none,0,0⟩:Slc)).k)),(22,iv ((t12.getD t14 []).length:Int)),(23,iv (t23:Int))],(bx cb (A0 c ⟨va (⟨some b3,k6,j7⟩:VR).q,t12.length,(⟨some b3,k6,j7⟩:VR).k⟩) 106::(vo C3 69 (⟨some b3,k6,j7⟩:VR) t12rs)++((vo B3 72 ownr own)++([]))),[sl B3 ((t12rs.getD t14 (⟨none,0,0⟩:Slc)).q) (t12.getD t14 []),E7 B3 cRowsrs cRows,E7 B3 t12rs t12],(t12.getD t14 []).length - t23)) y1 r8 0 ⟨(by omega),hR,hk9,(by omega)⟩ (mc [[bx cb (A0 c ⟨va (⟨some b3,k6,j7⟩:VR).q,t12.length,(⟨some b3,k6,j7⟩:VR).k⟩) 106],vo C3 69 (⟨some b3,k6,j7⟩:VR) t12rs,vo B3 72 r8 y1] [true,true,true] rfl (by first|rfl|(simp only [List.length_set]<;>rfl))) A5.refl ?_
  rintro own ownr t23 ⟨hm10,hR,hokownr,hol⟩
  have:=VOk.le hokownr
  refine sr 1 rfl (ip' 1 0 [(24,bv (decide ((t23:Int)<((t12.getD t14 []).length:Int))))] ?_)
  refine ie (A4 (R3 rfl (fun h11=>?_) (fun h11=>?_)))
  ·have h11p:(t23:Int)<((t12.getD t14 []).length:Int):=by simpa using h11
   rw [R9 Cel.zero (show t23<(t12.getD t14 []).length by omega)] at hR;replace hR:=(G3.eq_2 ..).symm.trans hR
   refine A8 (nx (A4 (A9 (sr 6 rfl (ip' 1 5 [(25,iv (t23:Int))] ?_)))))
   refine I4 0 rfl (by omega) fun a12 hq13=>?_
   refine ix rfl (F1 Q8 rfl rfl hq13 rfl t23 rfl (by omega)) ?_
   refine ix rfl (M5 (us:=B3 ((t12.getD t14 []).getD t23 Cel.zero)) B1d rfl rfl (G6 (c:=B3) (sz:=12) hq13 (fun _=>rfl) 0 rfl (gd Cel.zero (by omega))) rfl) ?_
   refine K6 3 0 [0] (fun b14=>[(6,pt b14 0),(5,iv (t23:Int))]) (fun b14=>(bx b14 (B3 ((t12.getD t14 []).getD t23 Cel.zero)) 72::bx cb (A0 c ⟨va (⟨some b3,k6,j7⟩:VR).q,t12.length,(⟨some b3,k6,j7⟩:VR).k⟩) 106::(vo C3 69 (⟨some b3,k6,j7⟩:VR) t12rs)++((vo B3 72 ownr own)++([])))) (fun b14=>?_)
   refine ie (sr 38 rfl (zrl 4 34 [0] [(31,bv (decide (((t12.getD t14 []).getD t23 Cel.zero).wide=1)))] ?_))
   refine zid 15 19 31 46 ((decide (((t23:Int)+1)=((t12.getD t14 []).length:Int)))||(!decide (((t12.getD t14 []).getD (t23+1) Cel.zero).wide=2))) (fun g15 g15p=>?_) ?_
   ·refine ip' 1 14 [(32,iv (t23:Int))] ?_
    refine ix rfl (B0 rfl rfl rfl rfl (by omega)) ?_
    refine ip' 4 9 [(37,bv (decide (((t23:Int)+1)=((t12.getD t14 []).length:Int))))] ?_
    refine zir 8 1 37 45 (!decide (((t12.getD t14 []).getD (t23+1) Cel.zero).wide=2)) (fun g16 g16p=>?_) ?_
    ·refine ip' 2 6 [(38,.slice ((t12rs.getD t14 (⟨none,0,0⟩:Slc)).q) ((t12.getD t14 []).length) ((t12rs.getD t14 (⟨none,0,0⟩:Slc)).k)),(39,iv (t23:Int))] ?_
     refine ix rfl (B0 rfl rfl rfl rfl (by omega)) ?_
     refine ix rfl (F1 Q8 rfl rfl hq13 rfl (t23+1) (by omega) (by omega)) ?_
     refine ip' 1 3 [(42,pa ((Addr.add a12 ((t23+1) * 12)).add 3))] ?_
     refine ix rfl (D6 (v:=iv (((t12.getD t14 []).getD (t23+1) Cel.zero).wide)) (us:=[iv (((t12.getD t14 []).getD (t23+1) Cel.zero).wide)]) ty3 rfl rfl (B5d (G6 (c:=B3) (sz:=12) hq13 (fun _=>rfl) 0 rfl (gd Cel.zero (by omega))) (ws:=[iv (((t12.getD t14 []).getD (t23+1) Cel.zero).wide)]) 3 1 rfl) rfl) ?_
     refine ip' 2 0 [(45,bv (!decide (((t12.getD t14 []).getD (t23+1) Cel.zero).wide=2)))] ?_
     exact A6 (M7 8 37 45 g16 A5.refl (mc [[bx b14 (B3 ((t12.getD t14 []).getD t23 Cel.zero)) 72],[bx cb (A0 c ⟨va (⟨some b3,k6,j7⟩:VR).q,t12.length,(⟨some b3,k6,j7⟩:VR).k⟩) 106],vo C3 69 (⟨some b3,k6,j7⟩:VR) t12rs,vo B3 72 ownr own] [true,true,true,true] rfl (by first|rfl|(simp only [List.length_set]<;>rfl))) rfl rfl rfl rfl rfl)
    refine ip' 1 0 [(46,bv ((decide (((t23:Int)+1)=((t12.getD t14 []).length:Int)))||(!decide (((t12.getD t14 []).getD (t23+1) Cel.zero).wide=2))))] ?_
    exact A6 (M7 6 31 46 g15 A5.refl (mc [[bx b14 (B3 ((t12.getD t14 []).getD t23 Cel.zero)) 72],[bx cb (A0 c ⟨va (⟨some b3,k6,j7⟩:VR).q,t12.length,(⟨some b3,k6,j7⟩:VR).k⟩) 106],vo C3 69 (⟨some b3,k6,j7⟩:VR) t12rs,vo B3 72 ownr own] [true,true,true,true] rfl (by first|rfl|(simp only [List.length_set]<;>rfl))) rfl rfl rfl rfl rfl)
   refine ip' 1 18 [(47,bv ((decide (((t12.getD t14 []).getD t23 Cel.zero).wide=1))&&((decide (((t23:Int)+1)=((t12.getD t14 []).length:Int)))||(!decide (((t12.getD t14 []).getD (t23+1) Cel.zero).wide=2)))))] ?_
   refine zio 17 1 47 64 ((decide (((t12.getD t14 []).getD t23 Cel.zero).wide=2))&&((decide ((t23:Int)=0))||(!decide (((t12.getD t14 []).getD (t23 - 1) Cel.zero).wide=1)))) (fun g17=>?_) ?_
   ·have g17p:¬ ((((t12.getD t14 []).getD t23 Cel.zero).wide=1)∧((((t23:Int)+1)=((t12.getD t14 []).length:Int))∨(¬ ((t12.getD t14 []).getD (t23+1) Cel.zero).wide=2))):=by simpa using g17
    refine zrl 4 13 [0] [(51,bv (decide (((t12.getD t14 []).getD t23 Cel.zero).wide=2)))] ?_
    refine zid 12 1 51 63 ((decide ((t23:Int)=0))||(!decide (((t12.getD t14 []).getD (t23 - 1) Cel.zero).wide=1))) (fun g18 g18p=>?_) ?_
    ·refine ip' 3 9 [(54,bv (decide ((t23:Int)=0)))] ?_
     refine zir 8 1 54 62 (!decide (((t12.getD t14 []).getD (t23 - 1) Cel.zero).wide=1)) (fun g19 g19p=>?_) ?_
     ·refine ip' 2 6 [(55,.slice ((t12rs.getD t14 (⟨none,0,0⟩:Slc)).q) ((t12.getD t14 []).length) ((t12rs.getD t14 (⟨none,0,0⟩:Slc)).k)),(56,iv (t23:Int))] ?_
      refine ix rfl (A1m rfl rfl rfl rfl (by omega)) ?_
      refine ix rfl (F1 Q8 rfl rfl hq13 rfl (t23 - 1) (by omega) (by omega)) ?_
      refine ip' 1 3 [(59,pa ((Addr.add a12 ((t23 - 1) * 12)).add 3))] ?_
      refine ix rfl (D6 (v:=iv (((t12.getD t14 []).getD (t23 - 1) Cel.zero).wide)) (us:=[iv (((t12.getD t14 []).getD (t23 - 1) Cel.zero).wide)]) ty3 rfl rfl (B5d (G6 (c:=B3) (sz:=12) hq13 (fun _=>rfl) 0 rfl (gd Cel.zero (by omega))) (ws:=[iv (((t12.getD t14 []).getD (t23 - 1) Cel.zero).wide)]) 3 1 rfl) rfl) ?_
      refine ip' 2 0 [(62,bv (!decide (((t12.getD t14 []).getD (t23 - 1) Cel.zero).wide=1)))] ?_
      exact A6 (M7 8 54 62 g19 A5.refl (mc [[bx b14 (B3 ((t12.getD t14 []).getD t23 Cel.zero)) 72],[bx cb (A0 c ⟨va (⟨some b3,k6,j7⟩:VR).q,t12.length,(⟨some b3,k6,j7⟩:VR).k⟩) 106],vo C3 69 (⟨some b3,k6,j7⟩:VR) t12rs,vo B3 72 ownr own] [true,true,true,true] rfl (by first|rfl|(simp only [List.length_set]<;>rfl))) rfl rfl rfl rfl rfl)
     refine ip' 1 0 [(63,bv ((decide ((t23:Int)=0))||(!decide (((t12.getD t14 []).getD (t23 - 1) Cel.zero).wide=1))))] ?_
     exact A6 (M7 4 51 63 g18 A5.refl (mc [[bx b14 (B3 ((t12.getD t14 []).getD t23 Cel.zero)) 72],[bx cb (A0 c ⟨va (⟨some b3,k6,j7⟩:VR).q,t12.length,(⟨some b3,k6,j7⟩:VR).k⟩) 106],vo C3 69 (⟨some b3,k6,j7⟩:VR) t12rs,vo B3 72 ownr own] [true,true,true,true] rfl (by first|rfl|(simp only [List.length_set]<;>rfl))) rfl rfl rfl rfl rfl)
    refine ip' 1 0 [(64,bv ((decide (((t12.getD t14 []).getD t23 Cel.zero).wide=2))&&((decide ((t23:Int)=0))||(!decide (((t12.getD t14 []).getD (t23 - 1) Cel.zero).wide=1)))))] ?_
    exact A6 (M7 4 47 64 g17 A5.refl (mc [[bx b14 (B3 ((t12.getD t14 []).getD t23 Cel.zero)) 72],[bx cb (A0 c ⟨va (⟨some b3,k6,j7⟩:VR).q,t12.length,(⟨some b3,k6,j7⟩:VR).k⟩) 106],vo C3 69 (⟨some b3,k6,j7⟩:VR) t12rs,vo B3 72 ownr own] [true,true,true,true] rfl (by first|rfl|(simp only [List.length_set]<;>rfl))) rfl rfl rfl rfl rfl)
   refine ip' 1 0 [(7,bv (((decide (((t12.getD t14 []).getD t23 Cel.zero).wide=1))&&((decide (((t23:Int)+1)=((t12.getD t14 []).length:Int)))||(!decide (((t12.getD t14 []).getD (t23+1) Cel.zero).wide=2))))||((decide (((t12.getD t14 []).getD t23 Cel.zero).wide=2))&&((decide ((t23:Int)=0))||(!decide (((t12.getD t14 []).getD (t23 - 1) Cel.zero).wide=1))))))] ?_
   refine ie (sr 1 rfl (ip' 1 0 [(65,bv (((decide (((t12.getD t14 []).getD t23 Cel.zero).wide=1))&&((decide (((t23:Int)+1)=((t12.getD t14 []).length:Int)))||(!decide (((t12.getD t14 []).getD (t23+1) Cel.zero).wide=2))))||((decide (((t12.getD t14 []).getD t23 Cel.zero).wide=2))&&((decide ((t23:Int)=0))||(!decide (((t12.getD t14 []).getD (t23 - 1) Cel.zero).wide=1))))))] ?_))
   refine ie ?_
   refine zjb rfl hR ?_ ?_<;>clear hR<;>intro hR h20
   ·have h20p:((((t12.getD t14 []).getD t23 Cel.zero).wide=1)∧((((t23:Int)+1)=((t12.getD t14 []).length:Int))∨(¬ ((t12.getD t14 []).getD (t23+1) Cel.zero).wide=2)))∨((((t12.getD t14 []).getD t23 Cel.zero).wide=2)∧(((t23:Int)=0)∨(¬ ((t12.getD t14 []).getD (t23 - 1) Cel.zero).wide=1))):=by first|simpa using h20|(simp at h20 ⊢;omega)
    refine A1 7 rfl (zrl 5 2 [0] [(66,.slice (va ownr.q) own.length ownr.k),(67,iv (t23:Int)),(70,ag (B3 ({Cel.zero with base:=32,sty:=((t12.getD t14 []).getD t23 Cel.zero).sty})))] ?_)
    obtain ⟨b21,hb22⟩:=VOk.some hokownr (by omega)
    obtain ⟨q23,k24,j25⟩:=ownr
    obtain rfl:q23=some b21:=hb22
    refine ix rfl (W7 Q8 rfl rfl rfl t23 rfl (by omega)) ?_
    refine it rfl (S8 (us:=B3 ({Cel.zero with base:=32,sty:=((t12.getD t14 []).getD t23 Cel.zero).sty})) (u':={Cel.zero with base:=32,sty:=((t12.getD t14 []).getD t23 Cel.zero).sty}) (c:=B3) (sz:=12) B1d (fun _=>rfl) rfl rfl rfl 3 rfl rfl rfl rfl t23 0 rfl (gd Cel.zero (by omega)) rfl rfl) fun _=>?_
    refine A6 (nx (A1 2 rfl (ix rfl (B0 rfl rfl rfl rfl (by omega)) ?_)))
    refine ip' 1 0 [(23,iv ((t23:Int)+1))] ?_
    refine A6 ?_
    exact C3o (z1:=own) (z2:=(⟨some b21,k24,j25⟩:VR)) (z3:=t23) (own.set t23 ({Cel.zero with base:=32,sty:=((t12.getD t14 []).getD t23 Cel.zero).sty})) (⟨some b21,k24,j25⟩:VR) (t23+1) ⟨(by omega),hR,(VOk.cast hokownr (by simp)),(by first|exact hol|(rw [List.length_set];exact hol))⟩ (by (try dsimp only);omega) (mc [[bx b14 (B3 ((t12.getD t14 []).getD t23 Cel.zero)) 72],[bx cb (A0 c ⟨va (⟨some b3,k6,j7⟩:VR).q,t12.length,(⟨some b3,k6,j7⟩:VR).k⟩) 106],vo C3 69 (⟨some b3,k6,j7⟩:VR) t12rs,vo B3 72 (⟨some b21,k24,j25⟩:VR) (own.set t23 ({Cel.zero with base:=32,sty:=((t12.getD t14 []).getD t23 Cel.zero).sty}))] [false,true,true,true] rfl (by first|rfl|(simp only [List.length_set]<;>rfl))) A5.refl
   have h20p:¬ (((((t12.getD t14 []).getD t23 Cel.zero).wide=1)∧((((t23:Int)+1)=((t12.getD t14 []).length:Int))∨(¬ ((t12.getD t14 []).getD (t23+1) Cel.zero).wide=2)))∨((((t12.getD t14 []).getD t23 Cel.zero).wide=2)∧(((t23:Int)=0)∨(¬ ((t12.getD t14 []).getD (t23 - 1) Cel.zero).wide=1)))):=by first|simpa using h20|(simp at h20 ⊢;omega)
   refine A8 (nx (A1 2 rfl (ix rfl (B0 rfl rfl rfl rfl (by omega)) ?_)))
   refine ip' 1 0 [(23,iv ((t23:Int)+1))] ?_
   refine A6 ?_
   exact C3o (z1:=own) (z2:=ownr) (z3:=t23) own ownr (t23+1) ⟨(by omega),hR,hokownr,(by first|exact hol|(rw [List.length_set];exact hol))⟩ (by (try dsimp only);omega) (mc [[bx b14 (B3 ((t12.getD t14 []).getD t23 Cel.zero)) 72],[bx cb (A0 c ⟨va (⟨some b3,k6,j7⟩:VR).q,t12.length,(⟨some b3,k6,j7⟩:VR).k⟩) 106],vo C3 69 (⟨some b3,k6,j7⟩:VR) t12rs,vo B3 72 ownr own] [false,true,true,true] rfl (by first|rfl|(simp only [List.length_set]<;>rfl))) A5.refl
  have h11p:¬ ((t23:Int)<((t12.getD t14 []).length:Int)):=by simpa using h11
  rw [R8 h11p] at hR;replace hR:=(G3.eq_1 ..).symm.trans hR
  refine F3 (nx (A1 9 rfl (zrl 7 2 [0] [(77,.slice (va (⟨some b3,k6,j7⟩:VR).q) t12.length ((⟨some b3,k6,j7⟩:VR).k)),(78,iv (t14:Int)),(79,.slice (va ownr.q) own.length ownr.k)] ?_)))
  refine ix rfl (W7 S6 rfl rfl rfl t14 rfl (by have:=hrowst12rs.1;omega)) ?_
  have:=VOk.cap hokownr
  have:=VOk.le hokownr
  refine P1 (bx cb (A0 c ⟨va (⟨some b3,k6,j7⟩:VR).q,t12.length,(⟨some b3,k6,j7⟩:VR).k⟩) 106::(vo C3 69 (⟨some b3,k6,j7⟩:VR) t12rs)++([])) [] (T:=72) (c:=B3) (r:=ownr) (xs:=own) hokownr (by first|rfl|simp only [List.cons_append,List.append_assoc,List.nil_append,List.append_nil]) ?_
  refine B8f (L':=(bx cb (A0 c ⟨va (⟨some b3,k6,j7⟩:VR).q,t12.length,(⟨some b3,k6,j7⟩:VR).k⟩) 106::(vo C3 69 (⟨some b3,k6,j7⟩:VR) t12rs)++([]))) (by first|rfl|simp only [List.cons_append,List.append_assoc,List.nil_append,List.append_nil]) ?_
  have hw26:C5 (t12rs.set t14 (⟨va ownr.q,own.length,ownr.k⟩:Slc)) (t12.set t14 own):=C5.set hrowst12rs t14 ⟨rfl,(by first|omega|(simp only [List.length_take,List.length_drop,List.length_append,List.length_cons,List.length_nil,List.length_set,List.length_map];omega)|decide),(by first|omega|(simp only [List.length_take,List.length_drop,List.length_append,List.length_cons,List.length_nil,List.length_set,List.length_map];omega)|decide)⟩
  refine G5 (A7n t14 (r:=(⟨va ownr.q,own.length,ownr.k⟩:Slc)) (xs:=own) (B9 3 rfl) (B9 0 rfl)) ?_
  refine it rfl (S8 (us:=[.slice (va ownr.q) own.length ownr.k]) (u':=(⟨va ownr.q,own.length,ownr.k⟩:Slc)) (c:=C3) (sz:=1) A1k (fun _=>rfl) rfl rfl rfl 1 rfl rfl rfl rfl t14 0 rfl (gd (⟨none,0,0⟩:Slc) (by have:=hrowst12rs.1;omega)) rfl rfl) fun _=>?_
  refine A6 (nx (A1 2 rfl (ix rfl (B0 rfl rfl rfl rfl (by omega)) ?_)))
  refine ip' 1 0 [(14,iv ((t14:Int)+1))] ?_
  refine A6 ?_
  exact B3a (z1:=t12) (z2:=(⟨some b3,k6,j7⟩:VR)) (z3:=t12rs) (z4:=t14) (t12.set t14 own) (⟨some b3,k6,j7⟩:VR) (t12rs.set t14 (⟨va ownr.q,own.length,ownr.k⟩:Slc)) (t14+1) ⟨(by omega),hR,(VOk.cast hokt12r (by simp)),hw26,(by (rw [List.length_set];exact hln)),(by exact C8q hw (by omega) _)⟩ (by (try dsimp only);omega) (mc [[bx cb (A0 c ⟨va (⟨some b3,k6,j7⟩:VR).q,t12.length,(⟨some b3,k6,j7⟩:VR).k⟩) 106],vo C3 69 (⟨some b3,k6,j7⟩:VR) (t12rs.set t14 (⟨va ownr.q,own.length,ownr.k⟩:Slc))] [true,true] rfl (by first|rfl|(simp only [List.length_set]<;>rfl))) (A5.pick [3,0] rfl)
 have h2p:¬ ((t14:Int)<(cRows.length:Int)):=by simpa using h2
 rw [R8 h2p] at hR;replace hR:=(G4.eq_1 ..).symm.trans hR
 subst hR
 refine F3 ?_
 exact zen hr hD (A8e rfl) ⟨(t12r,t12rs),⟨hokt12r,hrowst12rs⟩⟩ (mc [[bx cb (A0 c ⟨va t12r.q,t12.length,t12r.k⟩) 106],vo C3 69 t12r t12rs] [true,true] rfl (by first|rfl|(simp only [List.length_set]<;>rfl))) (A5.con1 (B9 1 rfl) fn0)
def O8 (f:FrmC) (fR:List (List Cel)) (rRow:Int) (rCol:Int) (rRows:Int) (rCols:Int):FrmC×List (List Cel)×Int :=
 (bif (!decide ((B6 f fR)=0)) then (FrmC.zero,([]:List (List Cel)),(B6 f fR)) else (bif (!(L6 f fR rRow rCol rRows rCols)) then (FrmC.zero,([]:List (List Cel)),2) else (H3 (J7 rRows f fR rRow rCol rRows rCols) fun (y3:List (List Cel))=>(H3 (J6 ({f with cols:=rCols}) y3) fun (y0:List (List Cel))=>(bif ((((decide ((0:Int)≤(IntKind.i64.wrap (f.cursor.row - rRow))))&&(decide ((IntKind.i64.wrap (f.cursor.row - rRow))<rRows)))&&(decide ((0:Int)≤(IntKind.i64.wrap (f.cursor.col - rCol)))))&&(decide ((IntKind.i64.wrap (f.cursor.col - rCol))<rCols))) then ({f with cols:=rCols,cursor:=(⟨(IntKind.i64.wrap (f.cursor.row - rRow)),(IntKind.i64.wrap (f.cursor.col - rCol))⟩:Plc)},y0,0) else ({f with cols:=rCols,cursor:=Plc.zero,visible:=false},y0,0))))))
theorem A0f (f:FrmC) (fr:List (List Cel)) (a b c d:Int):(O8 f fr a b c d).1.title.length≤f.title.length:=by
 unfold O8 H3
 simp only [Bool.cond_eq_ite]
 repeat' split
 all_goals first|exact Nat.zero_le _|exact Nat.le_refl _
theorem A3s (f:FrmC) (fR:List (List Cel)) (rRow:Int) (rCol:Int) (rRows:Int) (rCols:Int) (fQ:Option Addr) (fZ:List Slc) (fK:Nat) (hrowsfRowsrs:C5 fZ fR) (hlfRows:fR.length≤9223372036854775807) (hcfRows:fR.length≤fK) (hT:f.title.length≤100000000) (R:FrmC×List (List Cel)×Int) (hR:O8 f fR rRow rCol rRows rCols=R):Con Tryz.prog 25 [ag (A0 f ⟨fQ,fR.length,fK⟩),ag [iv rRow,iv rCol,iv rRows,iv rCols]] [] [sl C3 fQ fZ,E7 B3 fZ fR,X9,Z3] ({t:VR×List Slc // VOk 1 R.2.1.length t.1∧C5 t.2 R.2.1}) (fun x=>.tuple #[ag (A0 R.1 ⟨va x.1.1.q,R.2.1.length,x.1.1.k⟩),iv R.2.2]) (fun x=>((vo C3 69 x.1.1 x.1.2)++([]))) (fun x=>[E7 B3 x.1.2 R.2.1]):=by
 refine zco Tryz.func25 [(0,ag (A0 f ⟨fQ,fR.length,fK⟩)),(1,ag [iv rRow,iv rCol,iv rRows,iv rCols])] fun X hX hr hD=>?_
 replace hR:=(O8.eq_1 ..).symm.trans hR
 have:=hrowsfRowsrs.1
 refine sr 4 rfl (C3p 4 0 [] (fun b1 b2 b3=>[(2,pt b1 0),(3,pt b2 0),(4,pt b3 0)]) (fun b1 b2 b3=>[bx b3 (A0 FrmC.zero ⟨none,0,0⟩) 26,bx b2 [iv rRow,iv rCol,iv rRows,iv rCols] 61,bx b1 (A0 f ⟨fQ,fR.length,fK⟩) 26]) (fun b1 b2 b3=>?_))
 refine ie (A4 (sr 3 rfl (zrl 1 2 [2] [(10,ag (A0 f ⟨fQ,fR.length,fK⟩))] ?_)))
 refine zca (S9 f fR fQ fZ fK hrowsfRowsrs (by first|omega|(simp only [List.length_take,List.length_drop,List.length_append,List.length_cons,List.length_nil,List.length_set,List.length_map];omega)|decide) (by first|omega|(simp only [List.length_take,List.length_drop,List.length_append,List.length_cons,List.length_nil,List.length_set,List.length_map];omega)|decide) (by first|omega|(simp only [List.length_nil];omega)|(dsimp only;omega)) _ rfl) A5.refl ?_
 refine ip' 1 0 [(6,iv (B6 f fR))] ?_
 refine ie (sr 2 rfl (ip' 2 0 [(13,bv (!decide ((B6 f fR)=0)))] ?_))
 refine ie ?_
 refine zjn rfl hR ?_ ?_<;>clear hR<;>intro hR h4 h4p
 ·refine sr 4 rfl (zrg 4 0 [0] [(5,iv (B6 f fR))] [bx b3 (A0 FrmC.zero ⟨none,0,0⟩) 26,bx b2 [iv rRow,iv rCol,iv rRows,iv rCols] 61,bx b1 (A0 f ⟨fQ,fR.length,fK⟩) 26] ?_)
  subst hR
  refine ie (B4 ?_)
  exact zer hr hD (S0 rfl (J1 (us:=A0 FrmC.zero ⟨none,0,0⟩) A6o rfl 0 rfl rfl rfl) (B5 rfl)) ⟨(VR.nil,([]:List Slc)),⟨VOk.nil,C5.none⟩⟩ (mc [[bx b3 (A0 FrmC.zero ⟨none,0,0⟩) 26],[bx b2 [iv rRow,iv rCol,iv rRows,iv rCols] 61],[bx b1 (A0 f ⟨fQ,fR.length,fK⟩) 26],vo C3 69 VR.nil ([]:List Slc)] [false,false,false,true] rfl (by first|rfl|(simp only [List.length_set]<;>rfl))) (A5.con1 P6 fn0)
 have hfc:=Y1 (by first|exact h4p|simpa using h4)
 refine A8 (nx (A4 (sr 4 rfl (zrl 2 2 [2,1] [(16,ag (A0 f ⟨fQ,fR.length,fK⟩)),(17,ag [iv rRow,iv rCol,iv rRows,iv rCols])] ?_))))
 refine zca (A7q f fR rRow rCol rRows rCols fQ fZ fK hrowsfRowsrs (by first|omega|(simp only [List.length_take,List.length_drop,List.length_append,List.length_cons,List.length_nil,List.length_set,List.length_map];omega)|decide) (by first|omega|(simp only [List.length_take,List.length_drop,List.length_append,List.length_cons,List.length_nil,List.length_set,List.length_map];omega)|decide) (by first|omega|(dsimp only;omega)) _ rfl) (A5.pick [0,1] rfl) ?_
 refine ip' 1 0 [(19,bv (!(L6 f fR rRow rCol rRows rCols)))] ?_
 refine ie ?_
 refine zjb rfl hR ?_ ?_<;>clear hR<;>intro hR h5
 ·refine sr 3 rfl (zrg 3 0 [0] [(5,iv 2)] [bx b3 (A0 FrmC.zero ⟨none,0,0⟩) 26,bx b2 [iv rRow,iv rCol,iv rRows,iv rCols] 61,bx b1 (A0 f ⟨fQ,fR.length,fK⟩) 26] ?_)
  subst hR
  refine ie (B4 ?_)
  exact zer hr hD (S0 rfl (J1 (us:=A0 FrmC.zero ⟨none,0,0⟩) A6o rfl 0 rfl rfl rfl) (B5 rfl)) ⟨(VR.nil,([]:List Slc)),⟨VOk.nil,C5.none⟩⟩ (mc [[bx b3 (A0 FrmC.zero ⟨none,0,0⟩) 26],[bx b2 [iv rRow,iv rCol,iv rRows,iv rCols] 61],[bx b1 (A0 f ⟨fQ,fR.length,fK⟩) 26],vo C3 69 VR.nil ([]:List Slc)] [false,false,false,true] rfl (by first|rfl|(simp only [List.length_set]<;>rfl))) (A5.con1 P6 fn0)
 have hls:=B0l (by simpa using h5)
 have hpm:0≤rRows∧rRows≤40∧∀ i,0≤i∧i<rRows→B6j i f fR rRow rCol rRows rCols:=⟨by omega,by omega,fun i hi=>⟨A9o.of hfc,by omega,by omega,by omega,by omega,by omega,by omega,by omega⟩⟩
 refine A8 (nx (sr 4 rfl (K6 4 0 [2,0] (fun b6=>[(7,pt b6 0)]) (fun b6=>[bx b6 (A0 f ⟨fQ,fR.length,fK⟩) 106,bx b3 (A0 FrmC.zero ⟨none,0,0⟩) 26,bx b2 [iv rRow,iv rCol,iv rRows,iv rCols] 61,bx b1 (A0 f ⟨fQ,fR.length,fK⟩) 26]) (fun b6=>?_))))
 refine ie (sr 5 rfl (zrg 5 0 [2,0] [] [bx b6 (A0 ({f with cols:=rCols}) ⟨fQ,fR.length,fK⟩) 106,bx b3 (A0 FrmC.zero ⟨none,0,0⟩) 26,bx b2 [iv rRow,iv rCol,iv rRows,iv rCols] 61,bx b1 (A0 f ⟨fQ,fR.length,fK⟩) 26] ?_))
 refine ie (sr 7 rfl (zrl 3 4 [2] [(28,iv rRows),(29,.func (.func 59) #[] #[pt b1 0,pt b2 0])] ?_))
 have hQ:=I2 hR;clear hR;obtain ⟨y3,hy3,hR⟩:=hQ
 refine it rfl (H2 (L2:=[bx b6 (A0 ({f with cols:=rCols}) ⟨fQ,fR.length,fK⟩) 106,bx b3 (A0 FrmC.zero ⟨none,0,0⟩) 26]) (A4k rRows f fR rRow rCol rRows rCols b1 fQ fZ fK b2 hrowsfRowsrs (by first|omega|(simp only [List.length_take,List.length_drop,List.length_append,List.length_cons,List.length_nil,List.length_set,List.length_map];omega)|decide) (by first|omega|(simp only [List.length_take,List.length_drop,List.length_append,List.length_cons,List.length_nil,List.length_set,List.length_map];omega)|decide) (by exact hpm) y3 hy3) rfl rfl rfl rfl rfl (A5.pick [0,1] rfl) (H0 [[bx b6 (A0 ({f with cols:=rCols}) ⟨fQ,fR.length,fK⟩) 106],[bx b3 (A0 FrmC.zero ⟨none,0,0⟩) 26],[bx b2 [iv rRow,iv rCol,iv rRows,iv rCols] 61],[bx b1 (A0 f ⟨fQ,fR.length,fK⟩) 26]] [3,2,0,1] 4 rfl (by decide) rfl [[bx b1 (A0 f ⟨fQ,fR.length,fK⟩) 26],[bx b2 [iv rRow,iv rCol,iv rRows,iv rCols] 61],[bx b6 (A0 ({f with cols:=rCols}) ⟨fQ,fR.length,fK⟩) 106],[bx b3 (A0 FrmC.zero ⟨none,0,0⟩) 26]] rfl (by first|rfl|simp only [List.flatten_cons,List.flatten_nil,List.append_nil,List.cons_append,List.nil_append,List.append_assoc])) (fun ⟨⟨r7,rs8⟩,hp11⟩=>(bx b1 (A0 f ⟨fQ,fR.length,fK⟩) 26::bx b2 [iv rRow,iv rCol,iv rRows,iv rCols] 61::bx b6 (A0 ({f with cols:=rCols}) ⟨fQ,fR.length,fK⟩) 106::bx b3 (A0 FrmC.zero ⟨none,0,0⟩) 26::(vo C3 69 r7 rs8)++([]))) (fun ⟨⟨r7,rs8⟩,hp11⟩=>H0 [[bx b1 (A0 f ⟨fQ,fR.length,fK⟩) 26],[bx b2 [iv rRow,iv rCol,iv rRows,iv rCols] 61],vo C3 69 r7 rs8,[bx b6 (A0 ({f with cols:=rCols}) ⟨fQ,fR.length,fK⟩) 106],[bx b3 (A0 FrmC.zero ⟨none,0,0⟩) 26]] [0,1,3,4,2] 5 rfl (by decide) (by first|rfl|simp only [List.flatten_cons,List.flatten_nil,List.append_nil,List.cons_append,List.nil_append,List.append_assoc]) [[bx b1 (A0 f ⟨fQ,fR.length,fK⟩) 26],[bx b2 [iv rRow,iv rCol,iv rRows,iv rCols] 61],[bx b6 (A0 ({f with cols:=rCols}) ⟨fQ,fR.length,fK⟩) 106],[bx b3 (A0 FrmC.zero ⟨none,0,0⟩) 26],vo C3 69 r7 rs8] rfl (by first|rfl|simp only [List.flatten_cons,List.flatten_nil,List.append_nil,List.cons_append,List.nil_append,List.append_assoc]))) fun ⟨⟨r7,rs8⟩,hp11⟩=>?_
 try dsimp only at hp11
 obtain ⟨hk9,hw10⟩:=hp11
 have:=VOk.le hk9
 have:=VOk.cap hk9
 have:=hw10.1
 have hw0:=A4l rRows f fR rRow rCol rRows rCols hpm.2.2;rw [hy3] at hw0
 refine zrg 3 0 [2] [] (bx b1 (A0 f ⟨fQ,fR.length,fK⟩) 26::bx b2 [iv rRow,iv rCol,iv rRows,iv rCols] 61::bx b6 (A0 ({f with cols:=rCols}) ⟨va r7.q,y3.length,r7.k⟩) 106::bx b3 (A0 FrmC.zero ⟨none,0,0⟩) 26::(vo C3 69 r7 rs8)++([])) ?_
 refine ie (sr 1 rfl ?_)
 have hQ:=I2 hR;clear hR;obtain ⟨y0,hy0,hR⟩:=hQ
 refine it rfl (H2 (L2:=[bx b1 (A0 f ⟨fQ,fR.length,fK⟩) 26,bx b2 [iv rRow,iv rCol,iv rRows,iv rCols] 61,bx b3 (A0 FrmC.zero ⟨none,0,0⟩) 26]) (Z9 ({f with cols:=rCols}) y3 b6 r7 rs8 hk9 hw10 (by exact hw0) y0 hy0) rfl rfl rfl rfl rfl (A5.pick [0] rfl) (H0 [[bx b1 (A0 f ⟨fQ,fR.length,fK⟩) 26],[bx b2 [iv rRow,iv rCol,iv rRows,iv rCols] 61],[bx b6 (A0 ({f with cols:=rCols}) ⟨va r7.q,y3.length,r7.k⟩) 106],[bx b3 (A0 FrmC.zero ⟨none,0,0⟩) 26],vo C3 69 r7 rs8] [2,4,0,1,3] 5 rfl (by decide) rfl [[bx b6 (A0 ({f with cols:=rCols}) ⟨va r7.q,y3.length,r7.k⟩) 106],vo C3 69 r7 rs8,[bx b1 (A0 f ⟨fQ,fR.length,fK⟩) 26],[bx b2 [iv rRow,iv rCol,iv rRows,iv rCols] 61],[bx b3 (A0 FrmC.zero ⟨none,0,0⟩) 26]] rfl (by first|rfl|simp only [List.flatten_cons,List.flatten_nil,List.append_nil,List.cons_append,List.nil_append,List.append_assoc])) (fun ⟨⟨r12,rs13⟩,hp16⟩=>(bx b6 (A0 ({f with cols:=rCols}) ⟨va r12.q,y0.length,r12.k⟩) 106::bx b1 (A0 f ⟨fQ,fR.length,fK⟩) 26::bx b2 [iv rRow,iv rCol,iv rRows,iv rCols] 61::bx b3 (A0 FrmC.zero ⟨none,0,0⟩) 26::(vo C3 69 r12 rs13)++([]))) (fun ⟨⟨r12,rs13⟩,hp16⟩=>H0 [[bx b6 (A0 ({f with cols:=rCols}) ⟨va r12.q,y0.length,r12.k⟩) 106],vo C3 69 r12 rs13,[bx b1 (A0 f ⟨fQ,fR.length,fK⟩) 26],[bx b2 [iv rRow,iv rCol,iv rRows,iv rCols] 61],[bx b3 (A0 FrmC.zero ⟨none,0,0⟩) 26]] [0,2,3,4,1] 5 rfl (by decide) (by first|rfl|simp only [List.flatten_cons,List.flatten_nil,List.append_nil,List.cons_append,List.nil_append,List.append_assoc]) [[bx b6 (A0 ({f with cols:=rCols}) ⟨va r12.q,y0.length,r12.k⟩) 106],[bx b1 (A0 f ⟨fQ,fR.length,fK⟩) 26],[bx b2 [iv rRow,iv rCol,iv rRows,iv rCols] 61],[bx b3 (A0 FrmC.zero ⟨none,0,0⟩) 26],vo C3 69 r12 rs13] rfl (by first|rfl|simp only [List.flatten_cons,List.flatten_nil,List.append_nil,List.cons_append,List.nil_append,List.append_assoc]))) fun ⟨⟨r12,rs13⟩,hp16⟩=>?_
 try dsimp only at hp16
 obtain ⟨hk14,hw15⟩:=hp16
 have:=VOk.le hk14
 have:=VOk.cap hk14
 have:=hw15.1
 refine ie (sr 15 rfl (zrl 5 10 [1,2] [(36,iv f.cursor.row),(38,iv rRow)] ?_))
 refine ix rfl (I9.pure rfl) ?_
 refine zrl 5 4 [1,2] [(42,iv f.cursor.col),(44,iv rCol)] ?_
 refine ix rfl (I9.pure rfl) ?_
 refine K6 3 0 [0] (fun b17=>[(8,pt b17 0)]) (fun b17=>(bx b17 (G0 (⟨(IntKind.i64.wrap (f.cursor.row - rRow)),(IntKind.i64.wrap (f.cursor.col - rCol))⟩:Plc)) 24::bx b6 (A0 ({f with cols:=rCols}) ⟨va r12.q,y0.length,r12.k⟩) 106::bx b1 (A0 f ⟨fQ,fR.length,fK⟩) 26::bx b2 [iv rRow,iv rCol,iv rRows,iv rCols] 61::bx b3 (A0 FrmC.zero ⟨none,0,0⟩) 26::(vo C3 69 r12 rs13)++([]))) (fun b17=>?_)
 refine ie (A4 (sr 23 rfl (zrl 4 19 [0] [(50,bv (decide ((0:Int)≤(IntKind.i64.wrap (f.cursor.row - rRow)))))] ?_)))
 refine zid 6 13 50 56 (decide ((IntKind.i64.wrap (f.cursor.row - rRow))<rRows)) (fun g18 g18p=>?_) ?_
 ·refine zrl 6 0 [0,3] [(56,bv (decide ((IntKind.i64.wrap (f.cursor.row - rRow))<rRows)))] ?_
  exact A6 (M7 2 50 56 g18 A5.refl (mc [[bx b17 (G0 (⟨(IntKind.i64.wrap (f.cursor.row - rRow)),(IntKind.i64.wrap (f.cursor.col - rCol))⟩:Plc)) 24],[bx b6 (A0 ({f with cols:=rCols}) ⟨va r12.q,y0.length,r12.k⟩) 106],[bx b1 (A0 f ⟨fQ,fR.length,fK⟩) 26],[bx b2 [iv rRow,iv rCol,iv rRows,iv rCols] 61],[bx b3 (A0 FrmC.zero ⟨none,0,0⟩) 26],vo C3 69 r12 rs13] [true,true,true,true,true,true] rfl (by first|rfl|(simp only [List.length_set]<;>rfl))) rfl rfl rfl rfl rfl)
 refine ip' 1 12 [(57,bv ((decide ((0:Int)≤(IntKind.i64.wrap (f.cursor.row - rRow))))&&(decide ((IntKind.i64.wrap (f.cursor.row - rRow))<rRows))))] ?_
 refine zia 4 8 57 61 (decide ((0:Int)≤(IntKind.i64.wrap (f.cursor.col - rCol)))) (fun g19=>?_) ?_
 ·have g19p:((0:Int)≤(IntKind.i64.wrap (f.cursor.row - rRow)))∧((IntKind.i64.wrap (f.cursor.row - rRow))<rRows):=by simpa using g19
  refine zrl 4 0 [0] [(61,bv (decide ((0:Int)≤(IntKind.i64.wrap (f.cursor.col - rCol)))))] ?_
  exact A6 (M7 2 57 61 g19 A5.refl (mc [[bx b17 (G0 (⟨(IntKind.i64.wrap (f.cursor.row - rRow)),(IntKind.i64.wrap (f.cursor.col - rCol))⟩:Plc)) 24],[bx b6 (A0 ({f with cols:=rCols}) ⟨va r12.q,y0.length,r12.k⟩) 106],[bx b1 (A0 f ⟨fQ,fR.length,fK⟩) 26],[bx b2 [iv rRow,iv rCol,iv rRows,iv rCols] 61],[bx b3 (A0 FrmC.zero ⟨none,0,0⟩) 26],vo C3 69 r12 rs13] [true,true,true,true,true,true] rfl (by first|rfl|(simp only [List.length_set]<;>rfl))) rfl rfl rfl rfl rfl)
 refine ip' 1 7 [(62,bv (((decide ((0:Int)≤(IntKind.i64.wrap (f.cursor.row - rRow))))&&(decide ((IntKind.i64.wrap (f.cursor.row - rRow))<rRows)))&&(decide ((0:Int)≤(IntKind.i64.wrap (f.cursor.col - rCol))))))] ?_
 refine zia 6 1 62 68 (decide ((IntKind.i64.wrap (f.cursor.col - rCol))<rCols)) (fun g20=>?_) ?_
 ·have g20p:(((0:Int)≤(IntKind.i64.wrap (f.cursor.row - rRow)))∧((IntKind.i64.wrap (f.cursor.row - rRow))<rRows))∧((0:Int)≤(IntKind.i64.wrap (f.cursor.col - rCol))):=by simpa using g20
  refine zrl 6 0 [0,3] [(68,bv (decide ((IntKind.i64.wrap (f.cursor.col - rCol))<rCols)))] ?_
  exact A6 (M7 2 62 68 g20 A5.refl (mc [[bx b17 (G0 (⟨(IntKind.i64.wrap (f.cursor.row - rRow)),(IntKind.i64.wrap (f.cursor.col - rCol))⟩:Plc)) 24],[bx b6 (A0 ({f with cols:=rCols}) ⟨va r12.q,y0.length,r12.k⟩) 106],[bx b1 (A0 f ⟨fQ,fR.length,fK⟩) 26],[bx b2 [iv rRow,iv rCol,iv rRows,iv rCols] 61],[bx b3 (A0 FrmC.zero ⟨none,0,0⟩) 26],vo C3 69 r12 rs13] [true,true,true,true,true,true] rfl (by first|rfl|(simp only [List.length_set]<;>rfl))) rfl rfl rfl rfl rfl)
 refine ip' 1 0 [(9,bv ((((decide ((0:Int)≤(IntKind.i64.wrap (f.cursor.row - rRow))))&&(decide ((IntKind.i64.wrap (f.cursor.row - rRow))<rRows)))&&(decide ((0:Int)≤(IntKind.i64.wrap (f.cursor.col - rCol)))))&&(decide ((IntKind.i64.wrap (f.cursor.col - rCol))<rCols))))] ?_
 refine ie (sr 1 rfl (ip' 1 0 [(69,bv ((((decide ((0:Int)≤(IntKind.i64.wrap (f.cursor.row - rRow))))&&(decide ((IntKind.i64.wrap (f.cursor.row - rRow))<rRows)))&&(decide ((0:Int)≤(IntKind.i64.wrap (f.cursor.col - rCol)))))&&(decide ((IntKind.i64.wrap (f.cursor.col - rCol))<rCols))))] ?_))
 refine ie ?_
 refine zjb rfl hR ?_ ?_<;>clear hR<;>intro hR h21
 ·have h21p:((((0:Int)≤(IntKind.i64.wrap (f.cursor.row - rRow)))∧((IntKind.i64.wrap (f.cursor.row - rRow))<rRows))∧((0:Int)≤(IntKind.i64.wrap (f.cursor.col - rCol))))∧((IntKind.i64.wrap (f.cursor.col - rCol))<rCols):=by simpa using h21
  refine A1 4 rfl (zrg 4 0 [0,1] [] (bx b17 (G0 (⟨(IntKind.i64.wrap (f.cursor.row - rRow)),(IntKind.i64.wrap (f.cursor.col - rCol))⟩:Plc)) 24::bx b6 (A0 ({f with cols:=rCols,cursor:=(⟨(IntKind.i64.wrap (f.cursor.row - rRow)),(IntKind.i64.wrap (f.cursor.col - rCol))⟩:Plc)}) ⟨va r12.q,y0.length,r12.k⟩) 106::bx b1 (A0 f ⟨fQ,fR.length,fK⟩) 26::bx b2 [iv rRow,iv rCol,iv rRows,iv rCols] 61::bx b3 (A0 FrmC.zero ⟨none,0,0⟩) 26::(vo C3 69 r12 rs13)++([])) ?_)
  refine A6 (nx (sr 4 rfl (zrg 4 0 [1,4] [(5,iv 0)] (bx b17 (G0 (⟨(IntKind.i64.wrap (f.cursor.row - rRow)),(IntKind.i64.wrap (f.cursor.col - rCol))⟩:Plc)) 24::bx b6 (A0 ({f with cols:=rCols,cursor:=(⟨(IntKind.i64.wrap (f.cursor.row - rRow)),(IntKind.i64.wrap (f.cursor.col - rCol))⟩:Plc)}) ⟨va r12.q,y0.length,r12.k⟩) 106::bx b1 (A0 f ⟨fQ,fR.length,fK⟩) 26::bx b2 [iv rRow,iv rCol,iv rRows,iv rCols] 61::bx b3 (A0 ({f with cols:=rCols,cursor:=(⟨(IntKind.i64.wrap (f.cursor.row - rRow)),(IntKind.i64.wrap (f.cursor.col - rCol))⟩:Plc)}) ⟨va r12.q,y0.length,r12.k⟩) 26::(vo C3 69 r12 rs13)++([])) ?_)))
  subst hR
  refine ie (B4 ?_)
  exact zer hr hD (S0 rfl (J1 (us:=A0 ({f with cols:=rCols,cursor:=(⟨(IntKind.i64.wrap (f.cursor.row - rRow)),(IntKind.i64.wrap (f.cursor.col - rCol))⟩:Plc)}) ⟨va r12.q,y0.length,r12.k⟩) A6o rfl 4 rfl rfl rfl) (B5 rfl)) ⟨(r12,rs13),⟨hk14,hw15⟩⟩ (mc [[bx b17 (G0 (⟨(IntKind.i64.wrap (f.cursor.row - rRow)),(IntKind.i64.wrap (f.cursor.col - rCol))⟩:Plc)) 24],[bx b6 (A0 ({f with cols:=rCols,cursor:=(⟨(IntKind.i64.wrap (f.cursor.row - rRow)),(IntKind.i64.wrap (f.cursor.col - rCol))⟩:Plc)}) ⟨va r12.q,y0.length,r12.k⟩) 106],[bx b1 (A0 f ⟨fQ,fR.length,fK⟩) 26],[bx b2 [iv rRow,iv rCol,iv rRows,iv rCols] 61],[bx b3 (A0 ({f with cols:=rCols,cursor:=(⟨(IntKind.i64.wrap (f.cursor.row - rRow)),(IntKind.i64.wrap (f.cursor.col - rCol))⟩:Plc)}) ⟨va r12.q,y0.length,r12.k⟩) 26],vo C3 69 r12 rs13] [false,false,false,false,false,true] rfl (by first|rfl|(simp only [List.length_set]<;>rfl))) (A5.con1 (B9 0 rfl) fn0)
 have h21p:¬ (((((0:Int)≤(IntKind.i64.wrap (f.cursor.row - rRow)))∧((IntKind.i64.wrap (f.cursor.row - rRow))<rRows))∧((0:Int)≤(IntKind.i64.wrap (f.cursor.col - rCol))))∧((IntKind.i64.wrap (f.cursor.col - rCol))<rCols)):=by first|simpa using h21|(simp at h21 ⊢;omega)
 refine A1 7 rfl (zrg 7 0 [1,1] [] (bx b17 (G0 (⟨(IntKind.i64.wrap (f.cursor.row - rRow)),(IntKind.i64.wrap (f.cursor.col - rCol))⟩:Plc)) 24::bx b6 (A0 ({f with cols:=rCols,cursor:=Plc.zero,visible:=false}) ⟨va r12.q,y0.length,r12.k⟩) 106::bx b1 (A0 f ⟨fQ,fR.length,fK⟩) 26::bx b2 [iv rRow,iv rCol,iv rRows,iv rCols] 61::bx b3 (A0 FrmC.zero ⟨none,0,0⟩) 26::(vo C3 69 r12 rs13)++([])) ?_)
 refine A6 (nx (sr 4 rfl (zrg 4 0 [1,4] [(5,iv 0)] (bx b17 (G0 (⟨(IntKind.i64.wrap (f.cursor.row - rRow)),(IntKind.i64.wrap (f.cursor.col - rCol))⟩:Plc)) 24::bx b6 (A0 ({f with cols:=rCols,cursor:=Plc.zero,visible:=false}) ⟨va r12.q,y0.length,r12.k⟩) 106::bx b1 (A0 f ⟨fQ,fR.length,fK⟩) 26::bx b2 [iv rRow,iv rCol,iv rRows,iv rCols] 61::bx b3 (A0 ({f with cols:=rCols,cursor:=Plc.zero,visible:=false}) ⟨va r12.q,y0.length,r12.k⟩) 26::(vo C3 69 r12 rs13)++([])) ?_)))
 subst hR
 refine ie (B4 ?_)
 exact zer hr hD (S0 rfl (J1 (us:=A0 ({f with cols:=rCols,cursor:=Plc.zero,visible:=false}) ⟨va r12.q,y0.length,r12.k⟩) A6o rfl 4 rfl rfl rfl) (B5 rfl)) ⟨(r12,rs13),⟨hk14,hw15⟩⟩ (mc [[bx b17 (G0 (⟨(IntKind.i64.wrap (f.cursor.row - rRow)),(IntKind.i64.wrap (f.cursor.col - rCol))⟩:Plc)) 24],[bx b6 (A0 ({f with cols:=rCols,cursor:=Plc.zero,visible:=false}) ⟨va r12.q,y0.length,r12.k⟩) 106],[bx b1 (A0 f ⟨fQ,fR.length,fK⟩) 26],[bx b2 [iv rRow,iv rCol,iv rRows,iv rCols] 61],[bx b3 (A0 ({f with cols:=rCols,cursor:=Plc.zero,visible:=false}) ⟨va r12.q,y0.length,r12.k⟩) 26],vo C3 69 r12 rs13] [false,false,false,false,false,true] rfl (by first|rfl|(simp only [List.length_set]<;>rfl))) (A5.con1 (B9 0 rfl) fn0)
end Go.Proofs.YthcjfkljekdioaaGreatDoor
set_option linter.unusedVariables false
set_option linter.unusedSimpArgs false
set_option linter.unnecessarySimpa false
set_option maxRecDepth 100000
namespace Go.Proofs.YthcjfkljekdioaaGreatDoor
open Go Go.Fen
theorem C5u:Ty Tryz.prog 22 1 false:=⟨by kernel_rfl⟩
def E5 (n:Nat):List Cel :=
 (bif (decide ((0:Int)<(n:Int))) then ([]:List Cel) else ([]:List Cel))
theorem P3 (n:Nat):E5 n=[]:=by
 unfold E5;cases decide ((0:Int)<(n:Int))<;>rfl
theorem Z5 (n:Nat) (hn:n≤1000000) (R:List Cel) (hR:E5 n=R):Con Tryz.prog 101 [.slice none 0 0,iv (n:Int)] [] [] ({r:VR // VOk 12 R.length r}) (fun x=>.slice (va x.1.q) R.length x.1.k) (fun x=>((vo B3 72 x.1 R)++([]))) (fun x=>[]):=by
 refine zco Tryz.func101 [(0,.slice none 0 0),(1,iv (n:Int))] fun X hX hr hD=>?_
 replace hR:=(E5.eq_1 ..).symm.trans hR
 refine sr 1 rfl (ip' 1 0 [] ?_)
 refine ie (A4 (sr 2 rfl (ip' 2 0 [(6,bv (decide ((n:Int)<0)))] ?_)))
 refine ie (R3 rfl (fun h1=>?_) (fun h1=>?_))
 ·have h1p:(n:Int)<0:=by simpa using h1
  exfalso;omega
 have h1p:¬ ((n:Int)<0):=by simpa using h1
 refine A8 (nx (A4 (sr 8 rfl (ip' 2 6 [(8,iv (n:Int)),(9,.slice none 0 0)] ?_))))
 refine ix rfl (B8q Q8 rfl rfl rfl rfl rfl) ?_
 refine ip' 2 3 [(12,iv 0)] ?_
 refine ix rfl (A1m (c:=0) rfl rfl rfl rfl (by decide)) ?_
 refine ix rfl (A1m (c:=(n:Int)) rfl rfl rfl (by omega) (by omega)) ?_
 refine ip' 1 0 [(1,iv (n:Int))] ?_
 refine ie (sr 2 rfl (ip' 2 0 [(16,bv (decide ((0:Int)<(n:Int))))] ?_))
 refine ie ?_
 refine zjd rfl hR ?_ ?_<;>clear hR<;>intro hR h2 h2p
 ·refine A1 10 rfl (ip' 2 8 [(17,.slice none 0 0),(18,.slice none 0 0)] ?_)
  refine ix rfl (B8q Q8 rfl rfl rfl rfl rfl) ?_
  refine ix rfl (A2k Q8 rfl rfl 0 0 0 S4 (Q3 rfl rfl) S4 (by decide) (by decide) (by decide) (n':=0) rfl rfl) ?_
  refine ip' 1 5 [(21,iv (n:Int))] ?_
  refine it rfl (B4i (f:=B3) (m:=n) B8p Tryz.underlying3 rfl rfl rfl rfl rfl (rfl) (by omega) (by first|omega|(simp only [List.length_cons,List.length_nil,List.length_append,List.length_take,List.length_drop];omega)) (by first|omega|(simp only [List.length_cons,List.length_nil,List.length_append,List.length_take,List.length_drop];omega))) fun ⟨r3,hr4,hm5⟩=>?_
  have:([]:List Cel).length=0:=rfl
  refine ip' 2 2 [(24,iv 0)] ?_
  refine ix rfl (A4x (n':=0) Q8 rfl rfl 0 r3.k (Q3 rfl rfl) S4 (by omega) (by omega) rfl rfl) ?_
  have:([]:List Cel).length=0:=rfl
  refine ip' 1 0 [(0,.slice (va r3.q) 0 r3.k)] ?_
  refine A6 (nx (sr 2 rfl (ip' 2 0 [(4,.slice (va r3.q) 0 r3.k)] ?_)))
  subst hR
  refine ie (B4 ?_)
  exact zer hr hD (R1 rfl (B5 rfl)) ⟨r3,hr4⟩ (mc [vo B3 72 r3 ([]:List Cel)] [true] rfl (by first|rfl|(simp only [List.length_set]<;>rfl))) fn0
 refine A8 (nx (sr 2 rfl (ip' 2 0 [(4,.slice none 0 0)] ?_)))
 subst hR
 refine ie (B4 ?_)
 exact zer hr hD (R1 rfl (B5 rfl)) ⟨VR.nil,VOk.nil⟩ (mc [vo B3 72 VR.nil ([]:List Cel)] [true] rfl (by first|rfl|(simp only [List.length_set]<;>rfl))) fn0
def E3:List (List Cel)→List Cel→Nat→List Cel
 | [],newslice,t27=>newslice
 | hd_l1::tl_l1,newslice,t27=>E3 tl_l1 (newslice++hd_l1) (t27+1)
def E4 (slices:List (List Cel)):List (List Cel)→Nat→Nat→List Cel
 | [],size,t11=>E3 slices (E5 size) 0
 | hd_l0::tl_l0,size,t11=>E4 slices tl_l0 (size+hd_l0.length) (t11+1)
def J9 (slices:List (List Cel)):List Cel :=
 E4 slices slices 0 0
theorem A7d:∀ (ls:List (List Cel)) (acc:List Cel) (t:Nat),E3 ls acc t=acc++ls.flatten
 | [],acc,t=>by simp [E3]
 | x::ls,acc,t=>by simp [E3,A7d ls]
theorem A7l (s:List (List Cel)):∀ (ls:List (List Cel)) (z t:Nat),E4 s ls z t=s.flatten
 | [],z,t=>by simp [E4,A7d,P3]
 | x::ls,z,t=>by simp [E4,A7l s ls]
theorem L5 (s:List (List Cel)):J9 s=s.flatten:=A7l s s 0 0
theorem X8 (slices:List (List Cel)) (slicesq:Option Addr) (slicesrs:List Slc) (slicesk:Nat) (hrowsslicesrs:C5 slicesrs slices) (hlslices:slices.length≤9223372036854775807) (hcslices:slices.length≤slicesk) (hs:slices.length≤1000) (hb:∀ i,i<slices.length→(slices.getD i []).length≤1000) (R:List Cel) (hR:J9 slices=R):Con Tryz.prog 63 [.slice slicesq slices.length slicesk] [] [sl C3 slicesq slicesrs,E7 B3 slicesrs slices] ({r:VR // VOk 12 R.length r}) (fun x=>.slice (va x.1.q) R.length x.1.k) (fun x=>((vo B3 72 x.1 R)++([]))) (fun x=>[]):=by
 refine zco Tryz.func63 [(0,.slice slicesq slices.length slicesk)] fun X hX hr hD=>?_
 replace hR:=(J9.eq_1 ..).symm.trans hR
 have:=hrowsslicesrs.1
 refine sr 1 rfl (ip' 1 0 [] ?_)
 refine ie (sr 1 rfl (ip' 1 0 [(3,iv 0)] ?_))
 refine ie (A4 (sr 3 rfl (ip' 3 0 [(9,.slice slicesq slices.length slicesk),(10,iv (slices.length:Int)),(11,iv 0)] ?_)))
 refine ie (A9 (C3s (fun (size:Nat) (t11:Nat)=>(t11≤slices.length∧E4 slices (slices.drop t11) size t11=R∧size≤1000 * t11,[(0,.slice slicesq slices.length slicesk),(3,iv (size:Int)),(9,.slice slicesq slices.length slicesk),(10,iv (slices.length:Int)),(11,iv (t11:Int))],[],[sl C3 slicesq slicesrs,E7 B3 slicesrs slices],slices.length - t11)) 0 0 ⟨(by omega),hR,(by omega)⟩ (mk [] rfl) A5.refl ?_))
 rintro size t11 ⟨hm1,hR,hz⟩
 refine sr 1 rfl (ip' 1 0 [(12,bv (decide ((t11:Int)<(slices.length:Int))))] ?_)
 refine ie (A4 (R3 rfl (fun h2=>?_) (fun h2=>?_)))
 ·have h2p:(t11:Int)<(slices.length:Int):=by simpa using h2
  rw [R9 [] (show t11<slices.length by omega)] at hR;replace hR:=(E4.eq_2 ..).symm.trans hR
  have:=hb t11 (by omega)
  refine A8 (nx (A4 (A9 (sr 3 rfl (I4 0 rfl (by have:=hrowsslicesrs.1;omega) fun a3 hq4=>?_)))))
  refine G5 (K7 (k:=t11) (d:=(⟨none,0,0⟩:Slc)) hrowsslicesrs 1 rfl (by have:=hrowsslicesrs.1;omega)) ?_
  have:=K8 hrowsslicesrs (k:=t11) (d:=(⟨none,0,0⟩:Slc)) (by have:=hrowsslicesrs.1;omega)
  refine ix rfl (F1 S6 rfl rfl hq4 rfl t11 rfl (by omega)) ?_
  refine ix rfl (F5 (D6 (v:=.slice ((slicesrs.getD t11 (⟨none,0,0⟩:Slc)).q) ((slicesrs.getD t11 (⟨none,0,0⟩:Slc)).n) ((slicesrs.getD t11 (⟨none,0,0⟩:Slc)).k)) (us:=[.slice ((slicesrs.getD t11 (⟨none,0,0⟩:Slc)).q) ((slicesrs.getD t11 (⟨none,0,0⟩:Slc)).n) ((slicesrs.getD t11 (⟨none,0,0⟩:Slc)).k)]) A1k rfl rfl (G6 (c:=C3) (sz:=1) hq4 (fun _=>rfl) 1 rfl (gd (⟨none,0,0⟩:Slc) (by have:=hrowsslicesrs.1;omega))) rfl) (M3 hrowsslicesrs (by have:=hrowsslicesrs.1;omega))) ?_
  refine ip' 1 0 [(5,.slice ((slicesrs.getD t11 (⟨none,0,0⟩:Slc)).q) ((slices.getD t11 []).length) ((slicesrs.getD t11 (⟨none,0,0⟩:Slc)).k))] ?_
  refine ie (sr 5 rfl (ip' 3 2 [(15,iv (size:Int)),(17,iv ((slices.getD t11 []).length:Int))] ?_))
  refine ix rfl (B0 rfl rfl rfl rfl (by omega)) ?_
  refine ip' 1 0 [(3,iv ((size:Int)+((slices.getD t11 []).length:Int)))] ?_
  refine ie (sr 2 rfl (ip' 2 0 [(20,bv (decide (((size:Int)+((slices.getD t11 []).length:Int))<0)))] ?_))
  refine ie (R3 rfl (fun h5=>?_) (fun h5=>?_))
  ·have h5p:((size:Int)+((slices.getD t11 []).length:Int))<0:=by simpa using h5
   exfalso;omega
  have h5p:¬ (((size:Int)+((slices.getD t11 []).length:Int))<0):=by simpa using h5
  refine A8 (nx (A1 2 rfl (ix rfl (B0 rfl rfl rfl rfl (by omega)) ?_)))
  refine ip' 1 0 [(11,iv ((t11:Int)+1))] ?_
  refine A6 ?_
  exact C3x (z1:=size) (z2:=t11) (size+(slices.getD t11 []).length) (t11+1) ⟨(by omega),hR,(by omega)⟩ (by (try dsimp only);omega) (mk [] rfl) (A5.pick [1,2] rfl)
 have h2p:¬ ((t11:Int)<(slices.length:Int)):=by simpa using h2
 rw [R8 h2p] at hR;replace hR:=(E4.eq_1 ..).symm.trans hR
 refine F3 (nx (sr 3 rfl (ip' 1 2 [(23,iv (size:Int))] ?_)))
 refine it rfl (G9 (L2:=[]) (Z5 size (by first|omega|(simp only [List.length_append,List.length_cons,List.length_nil,List.length_take,List.length_drop,List.length_set];omega)) _ rfl) rfl rfl rfl rfl rfl fn0 (List.Perm.refl _) (fun ⟨r6,hk7⟩=>((vo B3 72 r6 (E5 size))++([]))) (fun _=>by first|rfl|simp only [List.append_nil,List.cons_append,List.nil_append,List.append_assoc])) fun ⟨r6,hk7⟩=>?_
 have:=VOk.le hk7
 have:=VOk.cap hk7
 refine ip' 1 0 [(6,.slice (va r6.q) ((E5 size).length) r6.k)] ?_
 refine ie (A4 (sr 3 rfl (ip' 3 0 [(25,.slice slicesq slices.length slicesk),(26,iv (slices.length:Int)),(27,iv 0)] ?_)))
 refine ie (A9 ?_)
 refine C4z (fun (newslice:List Cel) (newslicer:VR) (t27:Nat)=>(t27≤slices.length∧E3 (slices.drop t27) newslice t27=R∧VOk 12 newslice.length newslicer∧newslice.length≤1000 * t27,[(6,.slice (va newslicer.q) newslice.length newslicer.k),(25,.slice slicesq slices.length slicesk),(26,iv (slices.length:Int)),(27,iv (t27:Int))],((vo B3 72 newslicer newslice)++([])),[sl C3 slicesq slicesrs,E7 B3 slicesrs slices],slices.length - t27)) (E5 size) r6 0 ⟨(by omega),hR,hk7,(by rw [P3];simp)⟩ (mc [vo B3 72 r6 (E5 size)] [true] rfl (by first|rfl|(simp only [List.length_set]<;>rfl))) A5.refl ?_
 rintro newslice newslicer t27 ⟨hm8,hR,hoknewslicer,hz2⟩
 have:=VOk.le hoknewslicer
 refine sr 1 rfl (ip' 1 0 [(28,bv (decide ((t27:Int)<(slices.length:Int))))] ?_)
 refine ie (A4 (R3 rfl (fun h9=>?_) (fun h9=>?_)))
 ·have h9p:(t27:Int)<(slices.length:Int):=by simpa using h9
  rw [R9 [] (show t27<slices.length by omega)] at hR;replace hR:=(E3.eq_2 ..).symm.trans hR
  have:=hb t27 (by omega)
  refine A8 (nx (A4 (A9 (sr 3 rfl (I4 0 rfl (by have:=hrowsslicesrs.1;omega) fun a10 hq11=>?_)))))
  refine G5 (K7 (k:=t27) (d:=(⟨none,0,0⟩:Slc)) hrowsslicesrs 1 rfl (by have:=hrowsslicesrs.1;omega)) ?_
  have:=K8 hrowsslicesrs (k:=t27) (d:=(⟨none,0,0⟩:Slc)) (by have:=hrowsslicesrs.1;omega)
  refine ix rfl (F1 S6 rfl rfl hq11 rfl t27 rfl (by omega)) ?_
  refine ix rfl (F5 (D6 (v:=.slice ((slicesrs.getD t27 (⟨none,0,0⟩:Slc)).q) ((slicesrs.getD t27 (⟨none,0,0⟩:Slc)).n) ((slicesrs.getD t27 (⟨none,0,0⟩:Slc)).k)) (us:=[.slice ((slicesrs.getD t27 (⟨none,0,0⟩:Slc)).q) ((slicesrs.getD t27 (⟨none,0,0⟩:Slc)).n) ((slicesrs.getD t27 (⟨none,0,0⟩:Slc)).k)]) A1k rfl rfl (G6 (c:=C3) (sz:=1) hq11 (fun _=>rfl) 1 rfl (gd (⟨none,0,0⟩:Slc) (by have:=hrowsslicesrs.1;omega))) rfl) (M3 hrowsslicesrs (by have:=hrowsslicesrs.1;omega))) ?_
  refine ip' 1 0 [(8,.slice ((slicesrs.getD t27 (⟨none,0,0⟩:Slc)).q) ((slices.getD t27 []).length) ((slicesrs.getD t27 (⟨none,0,0⟩:Slc)).k))] ?_
  refine ie (A1 4 rfl (ip' 2 2 [(31,.slice (va newslicer.q) newslice.length newslicer.k),(32,.slice ((slicesrs.getD t27 (⟨none,0,0⟩:Slc)).q) ((slices.getD t27 []).length) ((slicesrs.getD t27 (⟨none,0,0⟩:Slc)).k))] ?_))
  refine it rfl (A5g (f:=B3) (r:=newslicer) (xs:=newslice) (ys:=(slices.getD t27 [])) (pre:=[]) (post:=[]) B8p (fun _=>rfl) (fun _=>rfl) rfl rfl rfl rfl rfl rfl rfl rfl (B9 0 rfl) hoknewslicer (by first|omega|(simp only [List.length_cons,List.length_nil,List.length_append,List.length_take,List.length_drop];omega)) (by first|omega|(simp only [List.length_cons,List.length_nil,List.length_append,List.length_take,List.length_drop];omega))) fun ⟨r12,hr13⟩=>?_
  have:=@List.length_append _ newslice (slices.getD t27 [])
  have:=VOk.le hr13
  have:=VOk.cap hr13
  refine ip' 1 0 [(6,.slice (va r12.q) ((newslice++(slices.getD t27 [])).length) r12.k)] ?_
  refine A6 (nx (A1 2 rfl (ix rfl (B0 rfl rfl rfl rfl (by omega)) ?_)))
  refine ip' 1 0 [(27,iv ((t27:Int)+1))] ?_
  refine A6 ?_
  exact C3o (z1:=newslice) (z2:=newslicer) (z3:=t27) (newslice++(slices.getD t27 [])) r12 (t27+1) ⟨(by omega),hR,hr13,(by omega)⟩ (by (try dsimp only);omega) (mc [vo B3 72 r12 (newslice++(slices.getD t27 []))] [true] rfl (by first|rfl|(simp only [List.length_set]<;>rfl))) (A5.pick [1,2] rfl)
 have h9p:¬ ((t27:Int)<(slices.length:Int)):=by simpa using h9
 rw [R8 h9p] at hR;replace hR:=(E3.eq_1 ..).symm.trans hR
 refine F3 (nx (sr 2 rfl (ip' 2 0 [(2,.slice (va newslicer.q) newslice.length newslicer.k)] ?_)))
 subst hR
 refine ie (B4 ?_)
 exact zer hr hD (R1 rfl (B5 rfl)) ⟨newslicer,hoknewslicer⟩ (mc [vo B3 72 newslicer newslice] [true] rfl (by first|rfl|(simp only [List.length_set]<;>rfl))) fn0
def R5 (i:Int) (p1:Plc) (p2:FrmC) (p2Rows:List (List Cel)) (p3:FrmC) (p3Rows:List (List Cel)):List Cel :=
 (bif ((decide ((i - p1.row)<0))||(decide ((p2Rows.length:Int)≤(i - p1.row)))) then (p3Rows.getD ((i).toNat) []) else (H3 (J9 ([((p3Rows.getD ((i).toNat) []).take ((p1.col).toNat)),(p2Rows.getD ((i).toNat - (p1.row).toNat) []),((p3Rows.getD ((i).toNat) []).drop ((p1.col).toNat+(p2.cols).toNat))]:List (List Cel))) fun (y2:List Cel)=>y2))
theorem C1k {i:Int} {p:Plc} {g:FrmC} {gr:List (List Cel)} {f:FrmC} {fr:List (List Cel)} (h:C2f i p g gr f fr):(R5 i p g gr f fr).length≤100:=by
 obtain ⟨⟨h1,h2,h3⟩,⟨h1',h2',h3'⟩,h4,h5,h6,h7,h8,h9,h10⟩:=h
 have hf:=h3 i.toNat (by omega)
 unfold R5 H3
 by_cases c1:i - p.row<0
 ·rw [decide_eq_true c1];show (fr.getD i.toNat []).length≤100;omega
 ·by_cases c2:(gr.length:Int)≤i - p.row
  ·rw [decide_eq_true c2,Bool.or_true];show (fr.getD i.toNat []).length≤100;omega
  ·have hg:=h3' (i.toNat - p.row.toNat) (by omega)
   rw [decide_eq_false c1,decide_eq_false c2]
   simp only [Bool.or_self,cond_false,L5,List.flatten_cons,List.flatten_nil,List.append_nil,List.length_append,List.length_take,List.length_drop];omega
theorem B2l (i:Int) (p1:Plc) (p2:FrmC) (p2Rows:List (List Cel)) (p3:FrmC) (p3Rows:List (List Cel)) (p1b:Nat) (p2b:Nat) (p2Rowsq:Option Addr) (p2Rowsrs:List Slc) (p2Rowsk:Nat) (p3b:Nat) (p3Rowsq:Option Addr) (p3Rowsrs:List Slc) (p3Rowsk:Nat) (hrowsp2Rowsrs:C5 p2Rowsrs p2Rows) (hlp2Rows:p2Rows.length≤9223372036854775807) (hcp2Rows:p2Rows.length≤p2Rowsk) (hrowsp3Rowsrs:C5 p3Rowsrs p3Rows) (hlp3Rows:p3Rows.length≤9223372036854775807) (hcp3Rows:p3Rows.length≤p3Rowsk) (hq:C2f i p1 p2 p2Rows p3 p3Rows) (R:List Cel) (hR:R5 i p1 p2 p2Rows p3 p3Rows=R):Con Tryz.prog 62 [iv i,pt p1b 0,pt p2b 0,pt p3b 0] [bx p1b (G0 p1) 24,bx p2b (A0 p2 ⟨p2Rowsq,p2Rows.length,p2Rowsk⟩) 26,bx p3b (A0 p3 ⟨p3Rowsq,p3Rows.length,p3Rowsk⟩) 26] [sl C3 p2Rowsq p2Rowsrs,E7 B3 p2Rowsrs p2Rows,sl C3 p3Rowsq p3Rowsrs,E7 B3 p3Rowsrs p3Rows] ({t:Option Addr×Nat // R.length≤t.2∧R.length≤9223372036854775807}) (fun x=>.slice x.1.1 R.length x.1.2) (fun x=>[bx p1b (G0 p1) 24,bx p2b (A0 p2 ⟨p2Rowsq,p2Rows.length,p2Rowsk⟩) 26,bx p3b (A0 p3 ⟨p3Rowsq,p3Rows.length,p3Rowsk⟩) 26]) (fun x=>[sl B3 x.1.1 R]):=by
 refine zco Tryz.func62 [(0,iv i),(1,pt p1b 0),(2,pt p2b 0),(3,pt p3b 0)] fun X hX hr hD=>?_
 replace hR:=(R5.eq_1 ..).symm.trans hR
 have:=hrowsp2Rowsrs.1
 have:=hrowsp3Rowsrs.1
 obtain ⟨⟨hq1,hq2,hq3⟩,⟨hq1',hq2',hq3'⟩,hq4,hq5,hq6,hq7,hq8,hq9,hq10⟩:=hq
 have hqr:=hq3 i.toNat (by omega)
 refine sr 1 rfl (ip' 1 0 [] ?_)
 refine ie (sr 5 rfl (zrl 3 2 [0] [(7,iv i),(9,iv p1.row)] ?_))
 refine ix rfl (A1m rfl rfl rfl rfl (by omega)) ?_
 refine ip' 1 0 [(6,iv (i - p1.row))] ?_
 refine ie (A4 (sr 9 rfl (ip' 3 6 [(13,bv (decide ((i - p1.row)<0)))] ?_)))
 refine zir 6 0 13 19 (decide ((p2Rows.length:Int)≤(i - p1.row))) (fun g1 g1p=>?_) ?_
 ·refine zrl 6 0 [1] [(19,bv (decide ((p2Rows.length:Int)≤(i - p1.row))))] ?_
  exact zai 2 13 19 g1
 refine ie ?_
 refine zjo rfl hR ?_ ?_<;>clear hR<;>intro hR h2 h2p
 ·refine sr 6 rfl (zrl 3 3 [2] [(21,.slice p3Rowsq p3Rows.length p3Rowsk),(22,iv i)] ?_)
  refine I4 2 rfl (by have:=hrowsp3Rowsrs.1;omega) fun a3 hq4=>?_
  refine G5 (K7 (k:=(i).toNat) (d:=(⟨none,0,0⟩:Slc)) hrowsp3Rowsrs 3 rfl (by have:=hrowsp3Rowsrs.1;omega)) ?_
  have:=K8 hrowsp3Rowsrs (k:=(i).toNat) (d:=(⟨none,0,0⟩:Slc)) (by have:=hrowsp3Rowsrs.1;omega)
  refine ix rfl (F1 S6 rfl rfl hq4 rfl ((i).toNat) (by omega) (by omega)) ?_
  refine ix rfl (F5 (D6 (v:=.slice ((p3Rowsrs.getD ((i).toNat) (⟨none,0,0⟩:Slc)).q) ((p3Rowsrs.getD ((i).toNat) (⟨none,0,0⟩:Slc)).n) ((p3Rowsrs.getD ((i).toNat) (⟨none,0,0⟩:Slc)).k)) (us:=[.slice ((p3Rowsrs.getD ((i).toNat) (⟨none,0,0⟩:Slc)).q) ((p3Rowsrs.getD ((i).toNat) (⟨none,0,0⟩:Slc)).n) ((p3Rowsrs.getD ((i).toNat) (⟨none,0,0⟩:Slc)).k)]) A1k rfl rfl (G6 (c:=C3) (sz:=1) hq4 (fun _=>rfl) 3 rfl (gd (⟨none,0,0⟩:Slc) (by have:=hrowsp3Rowsrs.1;omega))) rfl) (M3 hrowsp3Rowsrs (by have:=hrowsp3Rowsrs.1;omega))) ?_
  refine ip' 1 0 [(5,.slice ((p3Rowsrs.getD ((i).toNat) (⟨none,0,0⟩:Slc)).q) ((p3Rows.getD ((i).toNat) []).length) ((p3Rowsrs.getD ((i).toNat) (⟨none,0,0⟩:Slc)).k))] ?_
  subst hR
  refine ie (B4 ?_)
  exact zer hr hD (R1 rfl (B5 rfl)) (zq ((p3Rowsrs.getD ((i).toNat) (⟨none,0,0⟩:Slc)).q) ((p3Rowsrs.getD ((i).toNat) (⟨none,0,0⟩:Slc)).k)) (mk [true,true,true] rfl) (A5.con1 (B9 0 rfl) fn0)
 have hqg:=hq3' (i.toNat - p1.row.toNat) (by omega)
 refine A8 (nx (B0o (K7 (k:=(i).toNat) (d:=(⟨none,0,0⟩:Slc)) hrowsp3Rowsrs 3 rfl (by have:=hrowsp3Rowsrs.1;omega)) ?_))
 have:=K8 hrowsp3Rowsrs (k:=(i).toNat) (d:=(⟨none,0,0⟩:Slc)) (by have:=hrowsp3Rowsrs.1;omega)
 refine B0o (B8s (B9 0 rfl) ((p1.col).toNat)) ?_
 refine B0o (K7 (k:=((i).toNat - (p1.row).toNat)) (d:=(⟨none,0,0⟩:Slc)) hrowsp2Rowsrs 3 rfl (by have:=hrowsp2Rowsrs.1;omega)) ?_
 have:=K8 hrowsp2Rowsrs (k:=((i).toNat - (p1.row).toNat)) (d:=(⟨none,0,0⟩:Slc)) (by have:=hrowsp2Rowsrs.1;omega)
 refine B0o (B4b (c:=B3) (sz:=12) (xs:=(p3Rows.getD ((i).toNat) [])) (B9 2 rfl) ((p1.col).toNat+(p2.cols).toNat) ((p3Rowsrs.getD ((i).toNat) (⟨none,0,0⟩:Slc)).k) (fun _=>rfl) (by omega) (by omega)) ?_
 refine sh 27 [(27,[bx p1b (G0 p1) 24]),(27,[bx p2b (A0 p2 ⟨p2Rowsq,p2Rows.length,p2Rowsk⟩) 26]),(27,[bx p3b (A0 p3 ⟨p3Rowsq,p3Rows.length,p3Rowsk⟩) 26])] [sl B3 (A2d ((p3Rowsrs.getD ((i).toNat) (⟨none,0,0⟩:Slc)).q) ((p1.col).toNat+(p2.cols).toNat) 12 ((p3Rowsrs.getD ((i).toNat) (⟨none,0,0⟩:Slc)).k)) ((p3Rows.getD ((i).toNat) []).drop ((p1.col).toNat+(p2.cols).toNat)),sl B3 ((p2Rowsrs.getD ((i).toNat - (p1.row).toNat) (⟨none,0,0⟩:Slc)).q) (p2Rows.getD ((i).toNat - (p1.row).toNat) []),sl B3 ((p3Rowsrs.getD ((i).toNat) (⟨none,0,0⟩:Slc)).q) ((p3Rows.getD ((i).toNat) []).take ((p1.col).toNat)),sl B3 ((p3Rowsrs.getD ((i).toNat) (⟨none,0,0⟩:Slc)).q) (p3Rows.getD ((i).toNat) []),sl C3 p2Rowsq p2Rowsrs,E7 B3 p2Rowsrs p2Rows,sl C3 p3Rowsq p3Rowsrs,E7 B3 p3Rowsrs p3Rows] [bx p1b (G0 p1) 24,bx p2b (A0 p2 ⟨p2Rowsq,p2Rows.length,p2Rowsk⟩) 26,bx p3b (A0 p3 ⟨p3Rowsq,p3Rows.length,p3Rowsk⟩) 26] (zml 27 0) (by kernel_rfl) rfl (by kernel_rfl) (by kernel_rfl) (by kernel_rfl) (mk [true,true,true] rfl) A5.refl ?_
 refine zhp [0,2,5,8,10,13,15,18,20] 18 (zml 27 1352997) [(25,pt p3b 1),(27,iv i),(30,pt p1b 1),(33,pt p2b 1),(35,iv (i - p1.row)),(38,pt p3b 1),(40,iv i),(43,pt p1b 1),(45,pt p2b 0)] ?_
 refine zhl 1 [bx p1b (G0 p1) 24,bx p2b (A0 p2 ⟨p2Rowsq,p2Rows.length,p2Rowsk⟩) 26,bx p3b (A0 p3 ⟨p3Rowsq,p3Rows.length,p3Rowsk⟩) 26] (zml 27 1352999) rfl (C9 (v:=.slice p3Rowsq p3Rows.length p3Rowsk) C5u rfl rfl 2 rfl rfl) ?_
 refine B8z 6 rfl (by have:=hrowsp3Rowsrs.1;omega) fun a5 hq6=>?_
 refine zhk 3 (zml 27 1353007) rfl (F1 S6 rfl rfl hq6 rfl ((i).toNat) (by omega) (by omega)) ?_
 refine zhk 4 (zml 27 1353023) rfl (F5 (D6 (v:=.slice ((p3Rowsrs.getD ((i).toNat) (⟨none,0,0⟩:Slc)).q) ((p3Rowsrs.getD ((i).toNat) (⟨none,0,0⟩:Slc)).n) ((p3Rowsrs.getD ((i).toNat) (⟨none,0,0⟩:Slc)).k)) (us:=[.slice ((p3Rowsrs.getD ((i).toNat) (⟨none,0,0⟩:Slc)).q) ((p3Rowsrs.getD ((i).toNat) (⟨none,0,0⟩:Slc)).n) ((p3Rowsrs.getD ((i).toNat) (⟨none,0,0⟩:Slc)).k)]) A1k rfl rfl (G6 (c:=C3) (sz:=1) hq6 (fun _=>rfl) 6 rfl (gd (⟨none,0,0⟩:Slc) (by have:=hrowsp3Rowsrs.1;omega))) rfl) (M3 hrowsp3Rowsrs (by have:=hrowsp3Rowsrs.1;omega))) ?_
 refine zhl 6 [bx p1b (G0 p1) 24,bx p2b (A0 p2 ⟨p2Rowsq,p2Rows.length,p2Rowsk⟩) 26,bx p3b (A0 p3 ⟨p3Rowsq,p3Rows.length,p3Rowsk⟩) 26] (zml 27 1353087) rfl (C9 (v:=iv p1.col) ty3 rfl rfl 0 rfl rfl) ?_
 refine zhk 7 (zml 27 1353215) rfl (A4x (n':=((p3Rows.getD ((i).toNat) []).take ((p1.col).toNat)).length) Q8 rfl rfl ((p1.col).toNat) ((p3Rowsrs.getD ((i).toNat) (⟨none,0,0⟩:Slc)).k) (Q3 rfl (by omega)) S4 (by omega) (by omega) (by first|rfl|omega|(simp only [List.length_take,List.length_drop];omega)|(simp;done)) rfl) ?_
 have:=@List.length_take _ ((p1.col).toNat) (p3Rows.getD ((i).toNat) [])
 refine zhl 9 [bx p1b (G0 p1) 24,bx p2b (A0 p2 ⟨p2Rowsq,p2Rows.length,p2Rowsk⟩) 26,bx p3b (A0 p3 ⟨p3Rowsq,p3Rows.length,p3Rowsk⟩) 26] (zml 27 1353727) rfl (C9 (v:=.slice p2Rowsq p2Rows.length p2Rowsk) C5u rfl rfl 1 rfl rfl) ?_
 refine B8z 4 rfl (by have:=hrowsp2Rowsrs.1;omega) fun a7 hq8=>?_
 refine zhk 11 (zml 27 1355775) rfl (F1 S6 rfl rfl hq8 rfl ((i).toNat - (p1.row).toNat) (by omega) (by omega)) ?_
 refine zhk 12 (zml 27 1359871) rfl (F5 (D6 (v:=.slice ((p2Rowsrs.getD ((i).toNat - (p1.row).toNat) (⟨none,0,0⟩:Slc)).q) ((p2Rowsrs.getD ((i).toNat - (p1.row).toNat) (⟨none,0,0⟩:Slc)).n) ((p2Rowsrs.getD ((i).toNat - (p1.row).toNat) (⟨none,0,0⟩:Slc)).k)) (us:=[.slice ((p2Rowsrs.getD ((i).toNat - (p1.row).toNat) (⟨none,0,0⟩:Slc)).q) ((p2Rowsrs.getD ((i).toNat - (p1.row).toNat) (⟨none,0,0⟩:Slc)).n) ((p2Rowsrs.getD ((i).toNat - (p1.row).toNat) (⟨none,0,0⟩:Slc)).k)]) A1k rfl rfl (G6 (c:=C3) (sz:=1) hq8 (fun _=>rfl) 4 rfl (gd (⟨none,0,0⟩:Slc) (by have:=hrowsp2Rowsrs.1;omega))) rfl) (M3 hrowsp2Rowsrs (by have:=hrowsp2Rowsrs.1;omega))) ?_
 refine zhl 14 [bx p1b (G0 p1) 24,bx p2b (A0 p2 ⟨p2Rowsq,p2Rows.length,p2Rowsk⟩) 26,bx p3b (A0 p3 ⟨p3Rowsq,p3Rows.length,p3Rowsk⟩) 26] (zml 27 1376255) rfl (C9 (v:=.slice p3Rowsq p3Rows.length p3Rowsk) C5u rfl rfl 2 rfl rfl) ?_
 refine zhk 16 (zml 27 1441791) rfl (F1 S6 rfl rfl hq6 rfl ((i).toNat) (by omega) (by omega)) ?_
 refine zhk 17 (zml 27 1572863) rfl (F5 (D6 (v:=.slice ((p3Rowsrs.getD ((i).toNat) (⟨none,0,0⟩:Slc)).q) ((p3Rowsrs.getD ((i).toNat) (⟨none,0,0⟩:Slc)).n) ((p3Rowsrs.getD ((i).toNat) (⟨none,0,0⟩:Slc)).k)) (us:=[.slice ((p3Rowsrs.getD ((i).toNat) (⟨none,0,0⟩:Slc)).q) ((p3Rowsrs.getD ((i).toNat) (⟨none,0,0⟩:Slc)).n) ((p3Rowsrs.getD ((i).toNat) (⟨none,0,0⟩:Slc)).k)]) A1k rfl rfl (G6 (c:=C3) (sz:=1) hq6 (fun _=>rfl) 6 rfl (gd (⟨none,0,0⟩:Slc) (by have:=hrowsp3Rowsrs.1;omega))) rfl) (M3 hrowsp3Rowsrs (by have:=hrowsp3Rowsrs.1;omega))) ?_
 refine zhl 19 [bx p1b (G0 p1) 24,bx p2b (A0 p2 ⟨p2Rowsq,p2Rows.length,p2Rowsk⟩) 26,bx p3b (A0 p3 ⟨p3Rowsq,p3Rows.length,p3Rowsk⟩) 26] (zml 27 2097151) rfl (C9 (v:=iv p1.col) ty3 rfl rfl 0 rfl rfl) ?_
 refine zhl 21 [bx p1b (G0 p1) 24,bx p2b (A0 p2 ⟨p2Rowsq,p2Rows.length,p2Rowsk⟩) 26,bx p3b (A0 p3 ⟨p3Rowsq,p3Rows.length,p3Rowsk⟩) 26] (zml 27 4194303) rfl (C9 (v:=iv p2.cols) ty3 rfl rfl 1 rfl rfl) ?_
 refine zhk 22 (zml 27 8388607) rfl (B0 rfl rfl rfl rfl (by omega)) ?_
 refine zhk 23 (zml 27 16777215) rfl (A2k (n':=((p3Rows.getD ((i).toNat) []).drop ((p1.col).toNat+(p2.cols).toNat)).length) Q8 rfl rfl ((p1.col).toNat+(p2.cols).toNat) ((p3Rows.getD ((i).toNat) []).length) ((p3Rowsrs.getD ((i).toNat) (⟨none,0,0⟩:Slc)).k) (Q3 rfl (by omega)) S4 S4 (by omega) (by omega) (by omega) (by first|rfl|omega|(simp only [List.length_take,List.length_drop];omega)|(simp;done)) rfl) ?_
 have:=@List.length_drop _ ((p1.col).toNat+(p2.cols).toNat) (p3Rows.getD ((i).toNat) [])
 refine zho 24 [bx p1b (G0 p1) 24,bx p2b (A0 p2 ⟨p2Rowsq,p2Rows.length,p2Rowsk⟩) 26,bx p3b (A0 p3 ⟨p3Rowsq,p3Rows.length,p3Rowsk⟩) 26] (zml 27 33554431) rfl (F9 (c:=C3) (xs:=([⟨(p3Rowsrs.getD ((i).toNat) (⟨none,0,0⟩:Slc)).q,((p3Rows.getD ((i).toNat) []).take ((p1.col).toNat)).length,(p3Rowsrs.getD ((i).toNat) (⟨none,0,0⟩:Slc)).k⟩,⟨(p2Rowsrs.getD ((i).toNat - (p1.row).toNat) (⟨none,0,0⟩:Slc)).q,(p2Rows.getD ((i).toNat - (p1.row).toNat) []).length,(p2Rowsrs.getD ((i).toNat - (p1.row).toNat) (⟨none,0,0⟩:Slc)).k⟩,⟨(A2d ((p3Rowsrs.getD ((i).toNat) (⟨none,0,0⟩:Slc)).q) ((p1.col).toNat+(p2.cols).toNat) 12 ((p3Rowsrs.getD ((i).toNat) (⟨none,0,0⟩:Slc)).k)),((p3Rows.getD ((i).toNat) []).drop ((p1.col).toNat+(p2.cols).toNat)).length,(((p3Rowsrs.getD ((i).toNat) (⟨none,0,0⟩:Slc)).k) - ((p1.col).toNat+(p2.cols).toNat))⟩]:List Slc)) S6 rfl rfl rfl (by kernel_rfl)) (fun b9=>(mk [true,true,true] rfl)) (fun b9=>(A5.pick [1,2,3,4,5,6,7,8] rfl)) fun b9=>?_
 have hrows10:C5 ([⟨(p3Rowsrs.getD ((i).toNat) (⟨none,0,0⟩:Slc)).q,((p3Rows.getD ((i).toNat) []).take ((p1.col).toNat)).length,(p3Rowsrs.getD ((i).toNat) (⟨none,0,0⟩:Slc)).k⟩,⟨(p2Rowsrs.getD ((i).toNat - (p1.row).toNat) (⟨none,0,0⟩:Slc)).q,(p2Rows.getD ((i).toNat - (p1.row).toNat) []).length,(p2Rowsrs.getD ((i).toNat - (p1.row).toNat) (⟨none,0,0⟩:Slc)).k⟩,⟨(A2d ((p3Rowsrs.getD ((i).toNat) (⟨none,0,0⟩:Slc)).q) ((p1.col).toNat+(p2.cols).toNat) 12 ((p3Rowsrs.getD ((i).toNat) (⟨none,0,0⟩:Slc)).k)),((p3Rows.getD ((i).toNat) []).drop ((p1.col).toNat+(p2.cols).toNat)).length,(((p3Rowsrs.getD ((i).toNat) (⟨none,0,0⟩:Slc)).k) - ((p1.col).toNat+(p2.cols).toNat))⟩]:List Slc) ([((p3Rows.getD ((i).toNat) []).take ((p1.col).toNat)),(p2Rows.getD ((i).toNat - (p1.row).toNat) []),((p3Rows.getD ((i).toNat) []).drop ((p1.col).toNat+(p2.cols).toNat))]:List (List Cel)):=(C5.cons ⟨rfl,(by first|omega|(simp only [List.length_take,List.length_drop,List.length_append,List.length_cons,List.length_nil,List.length_set,List.length_map];omega)|decide),(by first|omega|(simp only [List.length_take,List.length_drop,List.length_append,List.length_cons,List.length_nil,List.length_set,List.length_map];omega)|decide)⟩ (C5.cons ⟨rfl,(by first|omega|(simp only [List.length_take,List.length_drop,List.length_append,List.length_cons,List.length_nil,List.length_set,List.length_map];omega)|decide),(by first|omega|(simp only [List.length_take,List.length_drop,List.length_append,List.length_cons,List.length_nil,List.length_set,List.length_map];omega)|decide)⟩ (C5.cons ⟨rfl,(by first|omega|(simp only [List.length_take,List.length_drop,List.length_append,List.length_cons,List.length_nil,List.length_set,List.length_map];omega)|decide),(by first|omega|(simp only [List.length_take,List.length_drop,List.length_append,List.length_cons,List.length_nil,List.length_set,List.length_map];omega)|decide)⟩ C5.none)))
 refine C2n (q:=E7 B3 ([⟨(p3Rowsrs.getD ((i).toNat) (⟨none,0,0⟩:Slc)).q,((p3Rows.getD ((i).toNat) []).take ((p1.col).toNat)).length,(p3Rowsrs.getD ((i).toNat) (⟨none,0,0⟩:Slc)).k⟩,⟨(p2Rowsrs.getD ((i).toNat - (p1.row).toNat) (⟨none,0,0⟩:Slc)).q,(p2Rows.getD ((i).toNat - (p1.row).toNat) []).length,(p2Rowsrs.getD ((i).toNat - (p1.row).toNat) (⟨none,0,0⟩:Slc)).k⟩,⟨(A2d ((p3Rowsrs.getD ((i).toNat) (⟨none,0,0⟩:Slc)).q) ((p1.col).toNat+(p2.cols).toNat) 12 ((p3Rowsrs.getD ((i).toNat) (⟨none,0,0⟩:Slc)).k)),((p3Rows.getD ((i).toNat) []).drop ((p1.col).toNat+(p2.cols).toNat)).length,(((p3Rowsrs.getD ((i).toNat) (⟨none,0,0⟩:Slc)).k) - ((p1.col).toNat+(p2.cols).toNat))⟩]:List Slc) ([((p3Rows.getD ((i).toNat) []).take ((p1.col).toNat)),(p2Rows.getD ((i).toNat - (p1.row).toNat) []),((p3Rows.getD ((i).toNat) []).drop ((p1.col).toNat+(p2.cols).toNat))]:List (List Cel))) (A1o (B9 3 rfl) (A1o (B9 2 rfl) (A1o (B9 1 rfl) P6))) ?_
 have:([⟨(p3Rowsrs.getD ((i).toNat) (⟨none,0,0⟩:Slc)).q,((p3Rows.getD ((i).toNat) []).take ((p1.col).toNat)).length,(p3Rowsrs.getD ((i).toNat) (⟨none,0,0⟩:Slc)).k⟩,⟨(p2Rowsrs.getD ((i).toNat - (p1.row).toNat) (⟨none,0,0⟩:Slc)).q,(p2Rows.getD ((i).toNat - (p1.row).toNat) []).length,(p2Rowsrs.getD ((i).toNat - (p1.row).toNat) (⟨none,0,0⟩:Slc)).k⟩,⟨(A2d ((p3Rowsrs.getD ((i).toNat) (⟨none,0,0⟩:Slc)).q) ((p1.col).toNat+(p2.cols).toNat) 12 ((p3Rowsrs.getD ((i).toNat) (⟨none,0,0⟩:Slc)).k)),((p3Rows.getD ((i).toNat) []).drop ((p1.col).toNat+(p2.cols).toNat)).length,(((p3Rowsrs.getD ((i).toNat) (⟨none,0,0⟩:Slc)).k) - ((p1.col).toNat+(p2.cols).toNat))⟩]:List Slc).length=3:=rfl
 have hQ:=I2 hR;clear hR;obtain ⟨y2,hy2,hR⟩:=hQ
 refine zho 25 [bx p1b (G0 p1) 24,bx p2b (A0 p2 ⟨p2Rowsq,p2Rows.length,p2Rowsk⟩) 26,bx p3b (A0 p3 ⟨p3Rowsq,p3Rows.length,p3Rowsk⟩) 26] (zml 27 67108863) rfl (H2 (L2:=[bx p1b (G0 p1) 24,bx p2b (A0 p2 ⟨p2Rowsq,p2Rows.length,p2Rowsk⟩) 26,bx p3b (A0 p3 ⟨p3Rowsq,p3Rows.length,p3Rowsk⟩) 26]) (X8 ([((p3Rows.getD ((i).toNat) []).take ((p1.col).toNat)),(p2Rows.getD ((i).toNat - (p1.row).toNat) []),((p3Rows.getD ((i).toNat) []).drop ((p1.col).toNat+(p2.cols).toNat))]:List (List Cel)) (some ⟨b9,0,none⟩) ([⟨(p3Rowsrs.getD ((i).toNat) (⟨none,0,0⟩:Slc)).q,((p3Rows.getD ((i).toNat) []).take ((p1.col).toNat)).length,(p3Rowsrs.getD ((i).toNat) (⟨none,0,0⟩:Slc)).k⟩,⟨(p2Rowsrs.getD ((i).toNat - (p1.row).toNat) (⟨none,0,0⟩:Slc)).q,(p2Rows.getD ((i).toNat - (p1.row).toNat) []).length,(p2Rowsrs.getD ((i).toNat - (p1.row).toNat) (⟨none,0,0⟩:Slc)).k⟩,⟨(A2d ((p3Rowsrs.getD ((i).toNat) (⟨none,0,0⟩:Slc)).q) ((p1.col).toNat+(p2.cols).toNat) 12 ((p3Rowsrs.getD ((i).toNat) (⟨none,0,0⟩:Slc)).k)),((p3Rows.getD ((i).toNat) []).drop ((p1.col).toNat+(p2.cols).toNat)).length,(((p3Rowsrs.getD ((i).toNat) (⟨none,0,0⟩:Slc)).k) - ((p1.col).toNat+(p2.cols).toNat))⟩]:List Slc) 3 hrows10 (by first|omega|(simp only [List.length_take,List.length_drop,List.length_append,List.length_cons,List.length_nil,List.length_set,List.length_map];omega)|decide) (by first|omega|(simp only [List.length_take,List.length_drop,List.length_append,List.length_cons,List.length_nil,List.length_set,List.length_map];omega)|decide) (by first|omega|(simp only [List.length_cons,List.length_nil];omega)) (by intro i hi;simp only [List.length_cons,List.length_nil] at hi;match i,hi with|0,_=>(simp only [List.getD_cons_zero,List.length_take,List.length_drop];omega)|1,_=>(simp only [List.getD_cons_zero,List.getD_cons_succ,List.length_take,List.length_drop];omega)|2,_=>(simp only [List.getD_cons_zero,List.getD_cons_succ,List.length_take,List.length_drop];omega)) y2 hy2) rfl rfl rfl rfl rfl (A5.pick [1,0] rfl) (List.Perm.refl _) (fun ⟨r11,hk12⟩=>(bx p1b (G0 p1) 24::bx p2b (A0 p2 ⟨p2Rowsq,p2Rows.length,p2Rowsk⟩) 26::bx p3b (A0 p3 ⟨p3Rowsq,p3Rows.length,p3Rowsk⟩) 26::(vo B3 72 r11 y2)++([]))) (fun ⟨r11,hk12⟩=>H0 [vo B3 72 r11 y2,[bx p1b (G0 p1) 24],[bx p2b (A0 p2 ⟨p2Rowsq,p2Rows.length,p2Rowsk⟩) 26],[bx p3b (A0 p3 ⟨p3Rowsq,p3Rows.length,p3Rowsk⟩) 26]] [1,2,3,0] 4 rfl (by decide) (by first|rfl|simp only [List.flatten_cons,List.flatten_nil,List.append_nil,List.cons_append,List.nil_append,List.append_assoc]) [[bx p1b (G0 p1) 24],[bx p2b (A0 p2 ⟨p2Rowsq,p2Rows.length,p2Rowsk⟩) 26],[bx p3b (A0 p3 ⟨p3Rowsq,p3Rows.length,p3Rowsk⟩) 26],vo B3 72 r11 y2] rfl (by first|rfl|simp only [List.flatten_cons,List.flatten_nil,List.append_nil,List.cons_append,List.nil_append,List.append_assoc]))) (fun ⟨r11,hk12⟩=>(mc [[bx p1b (G0 p1) 24],[bx p2b (A0 p2 ⟨p2Rowsq,p2Rows.length,p2Rowsk⟩) 26],[bx p3b (A0 p3 ⟨p3Rowsq,p3Rows.length,p3Rowsk⟩) 26],vo B3 72 r11 y2] [true,true,true,false] rfl (by first|rfl|(simp only [List.length_set]<;>rfl)))) (fun ⟨r11,hk12⟩=>(A5.pick [2,3,4,5,6,7,8,9] rfl)) fun ⟨r11,hk12⟩=>?_
 have:=VOk.le hk12
 have:=VOk.cap hk12
 have hcc:=L5 ([((p3Rows.getD ((i).toNat) []).take ((p1.col).toNat)),(p2Rows.getD ((i).toNat - (p1.row).toNat) []),((p3Rows.getD ((i).toNat) []).drop ((p1.col).toNat+(p2.cols).toNat))]:List (List Cel));rw [hy2] at hcc
 refine zhp [26] 0 (zml 27 134217727) [(5,.slice (va r11.q) y2.length r11.k)] ?_
 refine A8u (by kernel_rfl) ?_
 refine B4 (B4f [bx p1b (G0 p1) 24,bx p2b (A0 p2 ⟨p2Rowsq,p2Rows.length,p2Rowsk⟩) 26,bx p3b (A0 p3 ⟨p3Rowsq,p3Rows.length,p3Rowsk⟩) 26] [] (T:=72) (c:=B3) (r:=r11) (xs:=y2) hk12 (by first|rfl|simp only [List.cons_append,List.append_assoc,List.nil_append,List.append_nil]) ?_)
 have:=VOk.cap hk12
 subst hR
 exact zer hr hD (R1 rfl (B5 rfl)) (zq (va r11.q) r11.k) (mk [true,true,true] rfl) (A5.con1 (B9 0 rfl) fn0)
def H1 (ofc:Plc) (ofc1:FrmC) (ofcRows:List (List Cel)) (ofc2:FrmC) (ofcRows1:List (List Cel)):List (List Cel)→List (List Cel)→Nat→List (List Cel)
 | [],out,t11=>out
 | hd_l0::tl_l0,out,t11=>(H3 (R5 (t11:Int) ofc ofc1 ofcRows ofc2 ofcRows1) fun (y0:List Cel)=>H1 ofc ofc1 ofcRows ofc2 ofcRows1 tl_l0 (out.set t11 y0) (t11+1))
def J0 (n:Int) (ofc:Plc) (ofc1:FrmC) (ofcRows:List (List Cel)) (ofc2:FrmC) (ofcRows1:List (List Cel)):List (List Cel) :=
 H1 ofc ofc1 ofcRows ofc2 ofcRows1 (List.replicate ((n).toNat) ([]:List Cel)) (List.replicate ((n).toNat) ([]:List Cel)) 0
theorem U8 (p:Plc) (o:FrmC) (oR:List (List Cel)) (o2:FrmC) (oR2:List (List Cel)):∀ (tl out:List (List Cel)) (t:Nat),out.length=t+tl.length→H1 p o oR o2 oR2 tl out t=out.take t++(List.range' t tl.length).map (fun (i:Nat)=>R5 (i:Int) p o oR o2 oR2)
 | [],out,t,h=>by simp only [H1,List.length_nil,List.range'_zero,List.map_nil,List.append_nil];rw [List.take_of_length_le (by simp at h;omega)]
 | _::tl,out,t,h=>by
  have hlt:t<out.length:=by simp at h;omega
  simp only [H1,H3]
  rw [U8 p o oR o2 oR2 tl _ (t+1) (by simp at h ⊢;omega),List.take_add_one,List.take_set_of_le (Nat.le_refl _),List.getElem?_set_self hlt,List.length_cons,List.range'_succ]
  simp
theorem X5 (n:Int) (p:Plc) (o:FrmC) (oR:List (List Cel)) (o2:FrmC) (oR2:List (List Cel)):J0 n p o oR o2 oR2=(List.range n.toNat).map (fun (i:Nat)=>R5 (i:Int) p o oR o2 oR2):=by
 unfold J0
 rw [U8 p o oR o2 oR2 _ _ 0 (by simp),List.range_eq_range'];simp
theorem A3y (n:Int) (p:Plc) (o:FrmC) (oR:List (List Cel)) (o2:FrmC) (oR2:List (List Cel)) (h:∀ i,0≤i∧i<n→C2f i p o oR o2 oR2):∀ k,k<(J0 n p o oR o2 oR2).length→((J0 n p o oR o2 oR2).getD k []).length≤100:=by
 rw [X5]
 intro k hk
 have hk':k<n.toNat:=by simpa using hk
 rw [List.getD_eq_getElem?_getD,List.getElem?_map,List.getElem?_range hk']
 exact C1k (h (k:Int) (by omega))
theorem A3k (n:Int) (ofc:Plc) (ofc1:FrmC) (ofcRows:List (List Cel)) (ofc2:FrmC) (ofcRows1:List (List Cel)) (ofcb:Nat) (ofcb1:Nat) (ofcRowsq:Option Addr) (ofcRowsrs:List Slc) (ofcRowsk:Nat) (ofcb2:Nat) (ofcRowsq1:Option Addr) (ofcRowsrs1:List Slc) (ofcRowsk1:Nat) (hrowsofcRowsrs:C5 ofcRowsrs ofcRows) (hlofcRows:ofcRows.length≤9223372036854775807) (hcofcRows:ofcRows.length≤ofcRowsk) (hrowsofcRowsrs1:C5 ofcRowsrs1 ofcRows1) (hlofcRows1:ofcRows1.length≤9223372036854775807) (hcofcRows1:ofcRows1.length≤ofcRowsk1) (hq:0≤n∧n≤40∧∀ i,0≤i∧i<n→C2f i ofc ofc1 ofcRows ofc2 ofcRows1) (R:List (List Cel)) (hR:J0 n ofc ofc1 ofcRows ofc2 ofcRows1=R):Con Tryz.prog 58 [iv n,.func (.func 62) #[] #[pt ofcb 0,pt ofcb1 0,pt ofcb2 0]] [bx ofcb (G0 ofc) 24,bx ofcb1 (A0 ofc1 ⟨ofcRowsq,ofcRows.length,ofcRowsk⟩) 26,bx ofcb2 (A0 ofc2 ⟨ofcRowsq1,ofcRows1.length,ofcRowsk1⟩) 26] [sl C3 ofcRowsq ofcRowsrs,E7 B3 ofcRowsrs ofcRows,sl C3 ofcRowsq1 ofcRowsrs1,E7 B3 ofcRowsrs1 ofcRows1] ({t:VR×List Slc // VOk 1 R.length t.1∧C5 t.2 R}) (fun x=>.slice (va x.1.1.q) R.length x.1.1.k) (fun x=>(bx ofcb (G0 ofc) 24::bx ofcb1 (A0 ofc1 ⟨ofcRowsq,ofcRows.length,ofcRowsk⟩) 26::bx ofcb2 (A0 ofc2 ⟨ofcRowsq1,ofcRows1.length,ofcRowsk1⟩) 26::(vo C3 69 x.1.1 x.1.2)++([]))) (fun x=>[E7 B3 x.1.2 R]):=by
 refine zco Tryz.func58 [(0,iv n),(1,.func (.func 62) #[] #[pt ofcb 0,pt ofcb1 0,pt ofcb2 0])] fun X hX hr hD=>?_
 replace hR:=(J0.eq_1 ..).symm.trans hR
 have:=hrowsofcRowsrs.1
 have:=hrowsofcRowsrs1.1
 refine sr 1 rfl (ip' 1 0 [] ?_)
 refine ie (sr 3 rfl (ip' 1 2 [(7,iv n)] ?_))
 refine G5 (q:=E7 B3 (List.replicate ((n).toNat) (⟨none,0,0⟩:Slc)) (List.replicate ((n).toNat) ([]:List Cel))) B2b ?_
 refine it rfl (B3n (β:=Cel) (l:=(n).toNat) (c:=(n).toNat) C1i C2t.ok rfl (by exact congrArg (fun z=>some (Value.int .i64 z)) (show n=(((n).toNat:Nat):Int) by omega)) (by exact congrArg (fun z=>some (Value.int .i64 z)) (show n=(((n).toNat:Nat):Int) by omega)) (by omega) (by first|omega|(simp only [List.length_cons,List.length_nil,List.length_append,List.length_take,List.length_drop];omega)) (by omega)) fun ⟨r1,hr2⟩=>?_
 have:=VOk.le hr2
 have:=VOk.cap hr2
 have:(List.replicate ((n).toNat) ([]:List Cel)).length=(n).toNat:=List.length_replicate
 refine ip' 1 0 [(5,.slice (va r1.q) ((List.replicate ((n).toNat) ([]:List Cel)).length) r1.k)] ?_
 refine ie (A4 (sr 3 rfl (ip' 3 0 [(10,iv ((List.replicate ((n).toNat) ([]:List Cel)).length:Int)),(11,iv 0)] ?_)))
 refine ie (A9 ?_)
 refine B3d (fun (out:List (List Cel)) (outr:VR) (outrs:List Slc) (t11:Nat)=>(t11≤(List.replicate ((n).toNat) ([]:List Cel)).length∧H1 ofc ofc1 ofcRows ofc2 ofcRows1 ((List.replicate ((n).toNat) ([]:List Cel)).drop t11) out t11=R∧VOk 1 out.length outr∧C5 outrs out∧out.length=n.toNat,[(1,.func (.func 62) #[] #[pt ofcb 0,pt ofcb1 0,pt ofcb2 0]),(5,.slice (va outr.q) out.length outr.k),(10,iv ((List.replicate ((n).toNat) ([]:List Cel)).length:Int)),(11,iv (t11:Int))],(bx ofcb (G0 ofc) 24::bx ofcb1 (A0 ofc1 ⟨ofcRowsq,ofcRows.length,ofcRowsk⟩) 26::bx ofcb2 (A0 ofc2 ⟨ofcRowsq1,ofcRows1.length,ofcRowsk1⟩) 26::(vo C3 69 outr outrs)++([])),[E7 B3 (List.replicate ((n).toNat) (⟨none,0,0⟩:Slc)) (List.replicate ((n).toNat) ([]:List Cel)),sl C3 ofcRowsq ofcRowsrs,E7 B3 ofcRowsrs ofcRows,sl C3 ofcRowsq1 ofcRowsrs1,E7 B3 ofcRowsrs1 ofcRows1,E7 B3 outrs out],(List.replicate ((n).toNat) ([]:List Cel)).length - t11)) (List.replicate ((n).toNat) ([]:List Cel)) r1 (List.replicate ((n).toNat) (⟨none,0,0⟩:Slc)) 0 ⟨(by omega),hR,hr2,(C5.rep ((n).toNat)),(by exact List.length_replicate)⟩ (mc [[bx ofcb (G0 ofc) 24],[bx ofcb1 (A0 ofc1 ⟨ofcRowsq,ofcRows.length,ofcRowsk⟩) 26],[bx ofcb2 (A0 ofc2 ⟨ofcRowsq1,ofcRows1.length,ofcRowsk1⟩) 26],vo C3 69 r1 (List.replicate ((n).toNat) (⟨none,0,0⟩:Slc))] [true,true,true,true] rfl (by first|rfl|(simp only [List.length_set]<;>rfl))) (A5.pick [0,1,2,3,4,0] rfl) ?_
 rintro out outr outrs t11 ⟨hm3,hR,hokoutr,hrowsoutrs,hll⟩
 have:=VOk.le hokoutr
 have:=hrowsoutrs.1
 have:(List.replicate (n.toNat) ([]:List Cel)).length=n.toNat:=List.length_replicate
 have hqj:=fun (hh:(t11:Int)<n)=>hq.2.2 (t11:Int) ⟨by omega,hh⟩
 refine sr 1 rfl (ip' 1 0 [(12,bv (decide ((t11:Int)<((List.replicate ((n).toNat) ([]:List Cel)).length:Int))))] ?_)
 refine ie (A4 (R3 rfl (fun h4=>?_) (fun h4=>?_)))
 ·have h4p:(t11:Int)<((List.replicate ((n).toNat) ([]:List Cel)).length:Int):=by simpa using h4
  rw [R9 [] (show t11<(List.replicate ((n).toNat) ([]:List Cel)).length by omega)] at hR;replace hR:=(H1.eq_2 ..).symm.trans hR
  refine A8 (nx (A4 (A9 (sr 2 rfl (ip' 2 0 [(6,iv (t11:Int))] ?_)))))
  refine ie (A1 7 rfl (ip' 4 3 [(14,.slice (va outr.q) out.length outr.k),(15,iv (t11:Int)),(16,.func (.func 62) #[] #[pt ofcb 0,pt ofcb1 0,pt ofcb2 0]),(17,iv (t11:Int))] ?_))
  have hQ:=I2 hR;clear hR;obtain ⟨y0,hy0,hR⟩:=hQ
  refine it rfl (G9 (L2:=((vo C3 69 outr outrs)++([]))) (B2l (t11:Int) ofc ofc1 ofcRows ofc2 ofcRows1 ofcb ofcb1 ofcRowsq ofcRowsrs ofcRowsk ofcb2 ofcRowsq1 ofcRowsrs1 ofcRowsk1 hrowsofcRowsrs (by first|omega|(simp only [List.length_take,List.length_drop,List.length_append,List.length_cons,List.length_nil,List.length_set,List.length_map];omega)|decide) (by first|omega|(simp only [List.length_take,List.length_drop,List.length_append,List.length_cons,List.length_nil,List.length_set,List.length_map];omega)|decide) hrowsofcRowsrs1 (by first|omega|(simp only [List.length_take,List.length_drop,List.length_append,List.length_cons,List.length_nil,List.length_set,List.length_map];omega)|decide) (by first|omega|(simp only [List.length_take,List.length_drop,List.length_append,List.length_cons,List.length_nil,List.length_set,List.length_map];omega)|decide) (by exact hqj (by omega)) y0 hy0) rfl rfl rfl rfl rfl (A5.pick [1,2,3,4] rfl) (H0 [[bx ofcb (G0 ofc) 24],[bx ofcb1 (A0 ofc1 ⟨ofcRowsq,ofcRows.length,ofcRowsk⟩) 26],[bx ofcb2 (A0 ofc2 ⟨ofcRowsq1,ofcRows1.length,ofcRowsk1⟩) 26],vo C3 69 outr outrs] [0,1,2,3] 4 rfl (by decide) rfl [[bx ofcb (G0 ofc) 24],[bx ofcb1 (A0 ofc1 ⟨ofcRowsq,ofcRows.length,ofcRowsk⟩) 26],[bx ofcb2 (A0 ofc2 ⟨ofcRowsq1,ofcRows1.length,ofcRowsk1⟩) 26],vo C3 69 outr outrs] rfl (by first|rfl|simp only [List.flatten_cons,List.flatten_nil,List.append_nil,List.cons_append,List.nil_append,List.append_assoc])) (fun ⟨⟨q5,k6⟩,hp7⟩=>(bx ofcb (G0 ofc) 24::bx ofcb1 (A0 ofc1 ⟨ofcRowsq,ofcRows.length,ofcRowsk⟩) 26::bx ofcb2 (A0 ofc2 ⟨ofcRowsq1,ofcRows1.length,ofcRowsk1⟩) 26::(vo C3 69 outr outrs)++([]))) (fun _=>by first|rfl|simp only [List.append_nil,List.cons_append,List.nil_append,List.append_assoc])) fun ⟨⟨q5,k6⟩,hp7⟩=>?_
  obtain ⟨hc8,hl9⟩:=hp7
  obtain ⟨b10,hb11⟩:=VOk.some hokoutr (by omega)
  obtain ⟨q12,k13,j14⟩:=outr
  obtain rfl:q12=some b10:=hb11
  refine G5 (K7 (k:=t11) (d:=(⟨none,0,0⟩:Slc)) hrowsoutrs 6 rfl (by have:=hrowsoutrs.1;omega)) ?_
  have:=K8 hrowsoutrs (k:=t11) (d:=(⟨none,0,0⟩:Slc)) (by have:=hrowsoutrs.1;omega)
  refine ix rfl (W7 S6 rfl rfl rfl t11 rfl (by have:=hrowsoutrs.1;omega)) ?_
  have hw15:C5 (outrs.set t11 (⟨q5,y0.length,k6⟩:Slc)) (out.set t11 y0):=C5.set hrowsoutrs t11 ⟨rfl,(by first|omega|(simp only [List.length_take,List.length_drop,List.length_append,List.length_cons,List.length_nil,List.length_set,List.length_map];omega)|decide),(by first|omega|(simp only [List.length_take,List.length_drop,List.length_append,List.length_cons,List.length_nil,List.length_set,List.length_map];omega)|decide)⟩
  refine G5 (A7n t11 (r:=(⟨q5,y0.length,k6⟩:Slc)) (xs:=y0) (B9 7 rfl) (B9 1 rfl)) ?_
  refine it rfl (S8 (us:=[.slice q5 y0.length k6]) (u':=(⟨q5,y0.length,k6⟩:Slc)) (c:=C3) (sz:=1) A1k (fun _=>rfl) rfl rfl rfl 3 rfl rfl rfl rfl t11 0 rfl (gd (⟨none,0,0⟩:Slc) (by have:=hrowsoutrs.1;omega)) rfl rfl) fun _=>?_
  refine A6 (nx (A1 2 rfl (ix rfl (B0 rfl rfl rfl rfl (by omega)) ?_)))
  refine ip' 1 0 [(11,iv ((t11:Int)+1))] ?_
  refine A6 ?_
  exact B3a (z1:=out) (z2:=(⟨some b10,k13,j14⟩:VR)) (z3:=outrs) (z4:=t11) (out.set t11 y0) (⟨some b10,k13,j14⟩:VR) (outrs.set t11 (⟨q5,y0.length,k6⟩:Slc)) (t11+1) ⟨(by omega),hR,(VOk.cast hokoutr (by simp)),hw15,(by (rw [List.length_set];exact hll))⟩ (by (try dsimp only);omega) (mc [[bx ofcb (G0 ofc) 24],[bx ofcb1 (A0 ofc1 ⟨ofcRowsq,ofcRows.length,ofcRowsk⟩) 26],[bx ofcb2 (A0 ofc2 ⟨ofcRowsq1,ofcRows1.length,ofcRowsk1⟩) 26],vo C3 69 (⟨some b10,k13,j14⟩:VR) (outrs.set t11 (⟨q5,y0.length,k6⟩:Slc))] [true,true,true,true] rfl (by first|rfl|(simp only [List.length_set]<;>rfl))) (A5.pick [3,4,5,6,7,0] rfl)
 have h4p:¬ ((t11:Int)<((List.replicate ((n).toNat) ([]:List Cel)).length:Int)):=by simpa using h4
 rw [R8 h4p] at hR;replace hR:=(H1.eq_1 ..).symm.trans hR
 refine F3 (nx (sr 2 rfl (ip' 2 0 [(4,.slice (va outr.q) out.length outr.k)] ?_)))
 subst hR
 refine ie (B4 ?_)
 exact zer hr hD (R1 rfl (B5 rfl)) ⟨(outr,outrs),⟨hokoutr,hrowsoutrs⟩⟩ (mc [[bx ofcb (G0 ofc) 24],[bx ofcb1 (A0 ofc1 ⟨ofcRowsq,ofcRows.length,ofcRowsk⟩) 26],[bx ofcb2 (A0 ofc2 ⟨ofcRowsq1,ofcRows1.length,ofcRowsk1⟩) 26],vo C3 69 outr outrs] [true,true,true,true] rfl (by first|rfl|(simp only [List.length_set]<;>rfl))) (A5.con1 (B9 5 rfl) fn0)
def P4 (f:FrmC) (fR:List (List Cel)) (g:FrmC) (gRows:List (List Cel)) (at_:Plc):FrmC×List (List Cel)×Int :=
 (bif (!decide ((B6 f fR)=0)) then (FrmC.zero,([]:List (List Cel)),(B6 f fR)) else (bif (!decide ((B6 g gRows)=0)) then (FrmC.zero,([]:List (List Cel)),(B6 g gRows)) else (bif (!(L6 f fR at_.row at_.col (gRows.length:Int) g.cols)) then (FrmC.zero,([]:List (List Cel)),2) else (H3 (J0 (fR.length:Int) at_ g gRows f fR) fun (y3:List (List Cel))=>(H3 (J6 f y3) fun (y1:List (List Cel))=>(f,y1,0))))))
theorem A4g (f:FrmC) (fr:List (List Cel)) (g:FrmC) (gr:List (List Cel)) (p:Plc):(P4 f fr g gr p).1.title.length≤f.title.length:=by
 unfold P4 H3
 simp only [Bool.cond_eq_ite]
 repeat' split
 all_goals first|exact Nat.zero_le _|exact Nat.le_refl _
theorem A9x (f:FrmC) (fR:List (List Cel)) (g:FrmC) (gRows:List (List Cel)) (at_:Plc) (fQ:Option Addr) (fZ:List Slc) (fK:Nat) (gRowsq:Option Addr) (gRowsrs:List Slc) (gRowsk:Nat) (hrowsfRowsrs:C5 fZ fR) (hlfRows:fR.length≤9223372036854775807) (hcfRows:fR.length≤fK) (hrowsgRowsrs:C5 gRowsrs gRows) (hlgRows:gRows.length≤9223372036854775807) (hcgRows:gRows.length≤gRowsk) (hT:f.title.length≤100000000) (hTg:g.title.length≤100000000) (R:FrmC×List (List Cel)×Int) (hR:P4 f fR g gRows at_=R):Con Tryz.prog 28 [ag (A0 f ⟨fQ,fR.length,fK⟩),ag (A0 g ⟨gRowsq,gRows.length,gRowsk⟩),ag (G0 at_)] [] [sl C3 fQ fZ,E7 B3 fZ fR,sl C3 gRowsq gRowsrs,E7 B3 gRowsrs gRows,X9,Z3] ({t:VR×List Slc // VOk 1 R.2.1.length t.1∧C5 t.2 R.2.1}) (fun x=>.tuple #[ag (A0 R.1 ⟨va x.1.1.q,R.2.1.length,x.1.1.k⟩),iv R.2.2]) (fun x=>((vo C3 69 x.1.1 x.1.2)++([]))) (fun x=>[E7 B3 x.1.2 R.2.1]):=by
 refine zco Tryz.func28 [(0,ag (A0 f ⟨fQ,fR.length,fK⟩)),(1,ag (A0 g ⟨gRowsq,gRows.length,gRowsk⟩)),(2,ag (G0 at_))] fun X hX hr hD=>?_
 replace hR:=(P4.eq_1 ..).symm.trans hR
 have:=hrowsfRowsrs.1
 have:=hrowsgRowsrs.1
 refine sr 5 rfl (C3p 3 2 [] (fun b1 b2 b3=>[(3,pt b1 0),(4,pt b2 0),(5,pt b3 0)]) (fun b1 b2 b3=>[bx b3 (G0 at_) 24,bx b2 (A0 g ⟨gRowsq,gRows.length,gRowsk⟩) 26,bx b1 (A0 f ⟨fQ,fR.length,fK⟩) 26]) (fun b1 b2 b3=>?_))
 refine K6 2 0 [] (fun b4=>[(6,pt b4 0)]) (fun b4=>[bx b4 (A0 FrmC.zero ⟨none,0,0⟩) 26,bx b3 (G0 at_) 24,bx b2 (A0 g ⟨gRowsq,gRows.length,gRowsk⟩) 26,bx b1 (A0 f ⟨fQ,fR.length,fK⟩) 26]) (fun b4=>?_)
 refine ie (A4 (sr 4 rfl (zrl 4 0 [3,2] [(14,ag [iv f.cols,.slice fQ fR.length fK,iv f.cursor.row,iv f.cursor.col,bv f.visible,iv f.shape,sv f.title,iv g.cols,.slice gRowsq gRows.length gRowsk,iv g.cursor.row,iv g.cursor.col,bv g.visible,iv g.shape,sv g.title]),(15,iv 0)] ?_)))
 refine ie (A9 (P8 4 ?_))
 refine D8 (sr 1 rfl (ip' 1 0 [(16,bv true)] ?_))
 refine ie (A4 (I0 rfl (A8 (nx (A4 (A9 (sr 3 rfl (ix rfl (D7 (v:=ag [iv f.cols,.slice fQ fR.length fK,iv f.cursor.row,iv f.cursor.col,bv f.visible,iv f.shape,sv f.title]) (us:=[iv f.cols,.slice fQ fR.length fK,iv f.cursor.row,iv f.cursor.col,bv f.visible,iv f.shape,sv f.title]) Tryz.underlying110 A6o rfl rfl rfl 0 rfl (by decide) rfl rfl rfl) ?_))))))))
 refine K6 2 0 [0] (fun b5=>[(9,pt b5 0)]) (fun b5=>[bx b5 (A0 f ⟨fQ,fR.length,fK⟩) 26,bx b4 (A0 FrmC.zero ⟨none,0,0⟩) 26,bx b3 (G0 at_) 24,bx b2 (A0 g ⟨gRowsq,gRows.length,gRowsk⟩) 26,bx b1 (A0 f ⟨fQ,fR.length,fK⟩) 26]) (fun b5=>?_)
 refine ie (sr 3 rfl (zrl 1 2 [0] [(18,ag (A0 f ⟨fQ,fR.length,fK⟩))] ?_))
 refine zca (S9 f fR fQ fZ fK hrowsfRowsrs (by first|omega|(simp only [List.length_take,List.length_drop,List.length_append,List.length_cons,List.length_nil,List.length_set,List.length_map];omega)|decide) (by first|omega|(simp only [List.length_take,List.length_drop,List.length_append,List.length_cons,List.length_nil,List.length_set,List.length_map];omega)|decide) (by first|omega|(simp only [List.length_nil];omega)|(dsimp only;omega)) _ rfl) (A5.pick [0,1,4,5] rfl) ?_
 refine ip' 1 0 [(10,iv (B6 f fR))] ?_
 refine ie (sr 2 rfl (ip' 2 0 [(21,bv (!decide ((B6 f fR)=0)))] ?_))
 refine ie ?_
 refine zjn rfl hR ?_ ?_<;>clear hR<;>intro hR h6 h6p
 ·refine sr 4 rfl (zrg 4 0 [1] [(7,iv (B6 f fR))] [bx b5 (A0 f ⟨fQ,fR.length,fK⟩) 26,bx b4 (A0 FrmC.zero ⟨none,0,0⟩) 26,bx b3 (G0 at_) 24,bx b2 (A0 g ⟨gRowsq,gRows.length,gRowsk⟩) 26,bx b1 (A0 f ⟨fQ,fR.length,fK⟩) 26] ?_)
  subst hR
  refine ie (B4 ?_)
  exact zer hr hD (S0 rfl (J1 (us:=A0 FrmC.zero ⟨none,0,0⟩) A6o rfl 1 rfl rfl rfl) (B5 rfl)) ⟨(VR.nil,([]:List Slc)),⟨VOk.nil,C5.none⟩⟩ (mc [[bx b5 (A0 f ⟨fQ,fR.length,fK⟩) 26],[bx b4 (A0 FrmC.zero ⟨none,0,0⟩) 26],[bx b3 (G0 at_) 24],[bx b2 (A0 g ⟨gRowsq,gRows.length,gRowsk⟩) 26],[bx b1 (A0 f ⟨fQ,fR.length,fK⟩) 26],vo C3 69 VR.nil ([]:List Slc)] [false,false,false,false,false,true] rfl (by first|rfl|(simp only [List.length_set]<;>rfl))) (A5.con1 P6 fn0)
 have hfc_h6:=Y1 (by first|exact h6p|simpa using h6)
 refine A8 (nx (A1 2 rfl (ix rfl (B0 (c:=1) rfl rfl rfl rfl (by decide)) ?_)))
 refine ip' 1 0 [(15,iv 1)] ?_
 refine A6 (D8 (sr 1 rfl (ip' 1 0 [(16,bv true)] ?_)))
 refine ie (A4 (I0 rfl (A8 (nx (A4 (A9 (sr 3 rfl (ix rfl (D7 (v:=ag [iv g.cols,.slice gRowsq gRows.length gRowsk,iv g.cursor.row,iv g.cursor.col,bv g.visible,iv g.shape,sv g.title]) (us:=[iv g.cols,.slice gRowsq gRows.length gRowsk,iv g.cursor.row,iv g.cursor.col,bv g.visible,iv g.shape,sv g.title]) Tryz.underlying110 A6o rfl rfl rfl 1 rfl (by decide) rfl rfl rfl) ?_))))))))
 refine K6 2 0 [0] (fun b7=>[(9,pt b7 0)]) (fun b7=>[bx b7 (A0 g ⟨gRowsq,gRows.length,gRowsk⟩) 26,bx b5 (A0 f ⟨fQ,fR.length,fK⟩) 26,bx b4 (A0 FrmC.zero ⟨none,0,0⟩) 26,bx b3 (G0 at_) 24,bx b2 (A0 g ⟨gRowsq,gRows.length,gRowsk⟩) 26,bx b1 (A0 f ⟨fQ,fR.length,fK⟩) 26]) (fun b7=>?_)
 refine ie (sr 3 rfl (zrl 1 2 [0] [(18,ag (A0 g ⟨gRowsq,gRows.length,gRowsk⟩))] ?_))
 refine zca (S9 g gRows gRowsq gRowsrs gRowsk hrowsgRowsrs (by first|omega|(simp only [List.length_take,List.length_drop,List.length_append,List.length_cons,List.length_nil,List.length_set,List.length_map];omega)|decide) (by first|omega|(simp only [List.length_take,List.length_drop,List.length_append,List.length_cons,List.length_nil,List.length_set,List.length_map];omega)|decide) (by first|omega|(simp only [List.length_nil];omega)|(dsimp only;omega)) _ rfl) (A5.pick [2,3,4,5] rfl) ?_
 refine ip' 1 0 [(10,iv (B6 g gRows))] ?_
 refine ie (sr 2 rfl (ip' 2 0 [(21,bv (!decide ((B6 g gRows)=0)))] ?_))
 refine ie ?_
 refine zjn rfl hR ?_ ?_<;>clear hR<;>intro hR h8 h8p
 ·refine sr 4 rfl (zrg 4 0 [2] [(7,iv (B6 g gRows))] [bx b7 (A0 g ⟨gRowsq,gRows.length,gRowsk⟩) 26,bx b5 (A0 f ⟨fQ,fR.length,fK⟩) 26,bx b4 (A0 FrmC.zero ⟨none,0,0⟩) 26,bx b3 (G0 at_) 24,bx b2 (A0 g ⟨gRowsq,gRows.length,gRowsk⟩) 26,bx b1 (A0 f ⟨fQ,fR.length,fK⟩) 26] ?_)
  subst hR
  refine ie (B4 ?_)
  exact zer hr hD (S0 rfl (J1 (us:=A0 FrmC.zero ⟨none,0,0⟩) A6o rfl 2 rfl rfl rfl) (B5 rfl)) ⟨(VR.nil,([]:List Slc)),⟨VOk.nil,C5.none⟩⟩ (mc [[bx b7 (A0 g ⟨gRowsq,gRows.length,gRowsk⟩) 26],[bx b5 (A0 f ⟨fQ,fR.length,fK⟩) 26],[bx b4 (A0 FrmC.zero ⟨none,0,0⟩) 26],[bx b3 (G0 at_) 24],[bx b2 (A0 g ⟨gRowsq,gRows.length,gRowsk⟩) 26],[bx b1 (A0 f ⟨fQ,fR.length,fK⟩) 26],vo C3 69 VR.nil ([]:List Slc)] [false,false,false,false,false,false,true] rfl (by first|rfl|(simp only [List.length_set]<;>rfl))) (A5.con1 P6 fn0)
 have hfc_h8:=Y1 (by first|exact h8p|simpa using h8)
 refine A8 (nx (A1 2 rfl (ix rfl (B0 (c:=2) rfl rfl rfl rfl (by decide)) ?_)))
 refine ip' 1 0 [(15,iv 2)] ?_
 refine A6 (D8 (sr 1 rfl (ip' 1 0 [(16,bv false)] ?_)))
 refine ie (A4 (V5 rfl (F3 (nx (A4 (sr 13 rfl (zrl 11 2 [5,3,3,4,4] [(25,ag (A0 f ⟨fQ,fR.length,fK⟩)),(35,ag [iv at_.row,iv at_.col,iv (gRows.length:Int),iv g.cols])] ?_)))))))
 refine zca (A7q f fR at_.row at_.col (gRows.length:Int) g.cols fQ fZ fK hrowsfRowsrs (by first|omega|(simp only [List.length_take,List.length_drop,List.length_append,List.length_cons,List.length_nil,List.length_set,List.length_map];omega)|decide) (by first|omega|(simp only [List.length_take,List.length_drop,List.length_append,List.length_cons,List.length_nil,List.length_set,List.length_map];omega)|decide) (by first|omega|(dsimp only;omega)) _ rfl) (A5.pick [0,1] rfl) ?_
 refine ip' 1 0 [(37,bv (!(L6 f fR at_.row at_.col (gRows.length:Int) g.cols)))] ?_
 refine ie ?_
 refine zjb rfl hR ?_ ?_<;>clear hR<;>intro hR h9
 ·refine sr 3 rfl (zrg 3 0 [2] [(7,iv 2)] [bx b7 (A0 g ⟨gRowsq,gRows.length,gRowsk⟩) 26,bx b5 (A0 f ⟨fQ,fR.length,fK⟩) 26,bx b4 (A0 FrmC.zero ⟨none,0,0⟩) 26,bx b3 (G0 at_) 24,bx b2 (A0 g ⟨gRowsq,gRows.length,gRowsk⟩) 26,bx b1 (A0 f ⟨fQ,fR.length,fK⟩) 26] ?_)
  subst hR
  refine ie (B4 ?_)
  exact zer hr hD (S0 rfl (J1 (us:=A0 FrmC.zero ⟨none,0,0⟩) A6o rfl 2 rfl rfl rfl) (B5 rfl)) ⟨(VR.nil,([]:List Slc)),⟨VOk.nil,C5.none⟩⟩ (mc [[bx b7 (A0 g ⟨gRowsq,gRows.length,gRowsk⟩) 26],[bx b5 (A0 f ⟨fQ,fR.length,fK⟩) 26],[bx b4 (A0 FrmC.zero ⟨none,0,0⟩) 26],[bx b3 (G0 at_) 24],[bx b2 (A0 g ⟨gRowsq,gRows.length,gRowsk⟩) 26],[bx b1 (A0 f ⟨fQ,fR.length,fK⟩) 26],vo C3 69 VR.nil ([]:List Slc)] [false,false,false,false,false,false,true] rfl (by first|rfl|(simp only [List.length_set]<;>rfl))) (A5.con1 P6 fn0)
 have hls:=B0l (by simpa using h9)
 have hpm:0≤(fR.length:Int)∧(fR.length:Int)≤40∧∀ i,0≤i∧i<(fR.length:Int)→C2f i at_ g gRows f fR:=⟨by omega,by omega,fun i hi=>⟨A9o.of (by assumption),A9o.of (by assumption),by omega,by omega,by omega,by omega,by omega,by omega,by omega⟩⟩
 refine A8 (nx (sr 4 rfl (K6 4 0 [5,0] (fun b10=>[(11,pt b10 0)]) (fun b10=>[bx b10 (A0 f ⟨fQ,fR.length,fK⟩) 106,bx b7 (A0 g ⟨gRowsq,gRows.length,gRowsk⟩) 26,bx b5 (A0 f ⟨fQ,fR.length,fK⟩) 26,bx b4 (A0 FrmC.zero ⟨none,0,0⟩) 26,bx b3 (G0 at_) 24,bx b2 (A0 g ⟨gRowsq,gRows.length,gRowsk⟩) 26,bx b1 (A0 f ⟨fQ,fR.length,fK⟩) 26]) (fun b10=>?_))))
 refine ie (sr 8 rfl (zrl 4 4 [6] [(43,iv (fR.length:Int)),(44,.func (.func 62) #[] #[pt b3 0,pt b2 0,pt b1 0])] ?_))
 have hQ:=I2 hR;clear hR;obtain ⟨y3,hy3,hR⟩:=hQ
 refine it rfl (H2 (L2:=[bx b10 (A0 f ⟨fQ,fR.length,fK⟩) 106,bx b7 (A0 g ⟨gRowsq,gRows.length,gRowsk⟩) 26,bx b5 (A0 f ⟨fQ,fR.length,fK⟩) 26,bx b4 (A0 FrmC.zero ⟨none,0,0⟩) 26]) (A3k (fR.length:Int) at_ g gRows f fR b3 b2 gRowsq gRowsrs gRowsk b1 fQ fZ fK hrowsgRowsrs (by first|omega|(simp only [List.length_take,List.length_drop,List.length_append,List.length_cons,List.length_nil,List.length_set,List.length_map];omega)|decide) (by first|omega|(simp only [List.length_take,List.length_drop,List.length_append,List.length_cons,List.length_nil,List.length_set,List.length_map];omega)|decide) hrowsfRowsrs (by first|omega|(simp only [List.length_take,List.length_drop,List.length_append,List.length_cons,List.length_nil,List.length_set,List.length_map];omega)|decide) (by first|omega|(simp only [List.length_take,List.length_drop,List.length_append,List.length_cons,List.length_nil,List.length_set,List.length_map];omega)|decide) (by exact hpm) y3 hy3) rfl rfl rfl rfl rfl (A5.pick [2,3,0,1] rfl) (H0 [[bx b10 (A0 f ⟨fQ,fR.length,fK⟩) 106],[bx b7 (A0 g ⟨gRowsq,gRows.length,gRowsk⟩) 26],[bx b5 (A0 f ⟨fQ,fR.length,fK⟩) 26],[bx b4 (A0 FrmC.zero ⟨none,0,0⟩) 26],[bx b3 (G0 at_) 24],[bx b2 (A0 g ⟨gRowsq,gRows.length,gRowsk⟩) 26],[bx b1 (A0 f ⟨fQ,fR.length,fK⟩) 26]] [4,5,6,0,1,2,3] 7 rfl (by decide) rfl [[bx b3 (G0 at_) 24],[bx b2 (A0 g ⟨gRowsq,gRows.length,gRowsk⟩) 26],[bx b1 (A0 f ⟨fQ,fR.length,fK⟩) 26],[bx b10 (A0 f ⟨fQ,fR.length,fK⟩) 106],[bx b7 (A0 g ⟨gRowsq,gRows.length,gRowsk⟩) 26],[bx b5 (A0 f ⟨fQ,fR.length,fK⟩) 26],[bx b4 (A0 FrmC.zero ⟨none,0,0⟩) 26]] rfl (by first|rfl|simp only [List.flatten_cons,List.flatten_nil,List.append_nil,List.cons_append,List.nil_append,List.append_assoc])) (fun ⟨⟨r11,rs12⟩,hp15⟩=>(bx b3 (G0 at_) 24::bx b2 (A0 g ⟨gRowsq,gRows.length,gRowsk⟩) 26::bx b1 (A0 f ⟨fQ,fR.length,fK⟩) 26::bx b10 (A0 f ⟨fQ,fR.length,fK⟩) 106::bx b7 (A0 g ⟨gRowsq,gRows.length,gRowsk⟩) 26::bx b5 (A0 f ⟨fQ,fR.length,fK⟩) 26::bx b4 (A0 FrmC.zero ⟨none,0,0⟩) 26::(vo C3 69 r11 rs12)++([]))) (fun ⟨⟨r11,rs12⟩,hp15⟩=>H0 [[bx b3 (G0 at_) 24],[bx b2 (A0 g ⟨gRowsq,gRows.length,gRowsk⟩) 26],[bx b1 (A0 f ⟨fQ,fR.length,fK⟩) 26],vo C3 69 r11 rs12,[bx b10 (A0 f ⟨fQ,fR.length,fK⟩) 106],[bx b7 (A0 g ⟨gRowsq,gRows.length,gRowsk⟩) 26],[bx b5 (A0 f ⟨fQ,fR.length,fK⟩) 26],[bx b4 (A0 FrmC.zero ⟨none,0,0⟩) 26]] [0,1,2,4,5,6,7,3] 8 rfl (by decide) (by first|rfl|simp only [List.flatten_cons,List.flatten_nil,List.append_nil,List.cons_append,List.nil_append,List.append_assoc]) [[bx b3 (G0 at_) 24],[bx b2 (A0 g ⟨gRowsq,gRows.length,gRowsk⟩) 26],[bx b1 (A0 f ⟨fQ,fR.length,fK⟩) 26],[bx b10 (A0 f ⟨fQ,fR.length,fK⟩) 106],[bx b7 (A0 g ⟨gRowsq,gRows.length,gRowsk⟩) 26],[bx b5 (A0 f ⟨fQ,fR.length,fK⟩) 26],[bx b4 (A0 FrmC.zero ⟨none,0,0⟩) 26],vo C3 69 r11 rs12] rfl (by first|rfl|simp only [List.flatten_cons,List.flatten_nil,List.append_nil,List.cons_append,List.nil_append,List.append_assoc]))) fun ⟨⟨r11,rs12⟩,hp15⟩=>?_
 try dsimp only at hp15
 obtain ⟨hk13,hw14⟩:=hp15
 have:=VOk.le hk13
 have:=VOk.cap hk13
 have:=hw14.1
 have hw0:=A3y (fR.length:Int) at_ g gRows f fR hpm.2.2;rw [hy3] at hw0
 refine zrg 3 0 [3] [] (bx b3 (G0 at_) 24::bx b2 (A0 g ⟨gRowsq,gRows.length,gRowsk⟩) 26::bx b1 (A0 f ⟨fQ,fR.length,fK⟩) 26::bx b10 (A0 f ⟨va r11.q,y3.length,r11.k⟩) 106::bx b7 (A0 g ⟨gRowsq,gRows.length,gRowsk⟩) 26::bx b5 (A0 f ⟨fQ,fR.length,fK⟩) 26::bx b4 (A0 FrmC.zero ⟨none,0,0⟩) 26::(vo C3 69 r11 rs12)++([])) ?_
 refine ie (sr 1 rfl ?_)
 have hQ:=I2 hR;clear hR;obtain ⟨y1,hy1,hR⟩:=hQ
 refine it rfl (H2 (L2:=[bx b3 (G0 at_) 24,bx b2 (A0 g ⟨gRowsq,gRows.length,gRowsk⟩) 26,bx b1 (A0 f ⟨fQ,fR.length,fK⟩) 26,bx b7 (A0 g ⟨gRowsq,gRows.length,gRowsk⟩) 26,bx b5 (A0 f ⟨fQ,fR.length,fK⟩) 26,bx b4 (A0 FrmC.zero ⟨none,0,0⟩) 26]) (Z9 f y3 b10 r11 rs12 hk13 hw14 (by exact hw0) y1 hy1) rfl rfl rfl rfl rfl (A5.pick [0] rfl) (H0 [[bx b3 (G0 at_) 24],[bx b2 (A0 g ⟨gRowsq,gRows.length,gRowsk⟩) 26],[bx b1 (A0 f ⟨fQ,fR.length,fK⟩) 26],[bx b10 (A0 f ⟨va r11.q,y3.length,r11.k⟩) 106],[bx b7 (A0 g ⟨gRowsq,gRows.length,gRowsk⟩) 26],[bx b5 (A0 f ⟨fQ,fR.length,fK⟩) 26],[bx b4 (A0 FrmC.zero ⟨none,0,0⟩) 26],vo C3 69 r11 rs12] [3,7,0,1,2,4,5,6] 8 rfl (by decide) rfl [[bx b10 (A0 f ⟨va r11.q,y3.length,r11.k⟩) 106],vo C3 69 r11 rs12,[bx b3 (G0 at_) 24],[bx b2 (A0 g ⟨gRowsq,gRows.length,gRowsk⟩) 26],[bx b1 (A0 f ⟨fQ,fR.length,fK⟩) 26],[bx b7 (A0 g ⟨gRowsq,gRows.length,gRowsk⟩) 26],[bx b5 (A0 f ⟨fQ,fR.length,fK⟩) 26],[bx b4 (A0 FrmC.zero ⟨none,0,0⟩) 26]] rfl (by first|rfl|simp only [List.flatten_cons,List.flatten_nil,List.append_nil,List.cons_append,List.nil_append,List.append_assoc])) (fun ⟨⟨r16,rs17⟩,hp20⟩=>(bx b10 (A0 f ⟨va r16.q,y1.length,r16.k⟩) 106::bx b3 (G0 at_) 24::bx b2 (A0 g ⟨gRowsq,gRows.length,gRowsk⟩) 26::bx b1 (A0 f ⟨fQ,fR.length,fK⟩) 26::bx b7 (A0 g ⟨gRowsq,gRows.length,gRowsk⟩) 26::bx b5 (A0 f ⟨fQ,fR.length,fK⟩) 26::bx b4 (A0 FrmC.zero ⟨none,0,0⟩) 26::(vo C3 69 r16 rs17)++([]))) (fun ⟨⟨r16,rs17⟩,hp20⟩=>H0 [[bx b10 (A0 f ⟨va r16.q,y1.length,r16.k⟩) 106],vo C3 69 r16 rs17,[bx b3 (G0 at_) 24],[bx b2 (A0 g ⟨gRowsq,gRows.length,gRowsk⟩) 26],[bx b1 (A0 f ⟨fQ,fR.length,fK⟩) 26],[bx b7 (A0 g ⟨gRowsq,gRows.length,gRowsk⟩) 26],[bx b5 (A0 f ⟨fQ,fR.length,fK⟩) 26],[bx b4 (A0 FrmC.zero ⟨none,0,0⟩) 26]] [0,2,3,4,5,6,7,1] 8 rfl (by decide) (by first|rfl|simp only [List.flatten_cons,List.flatten_nil,List.append_nil,List.cons_append,List.nil_append,List.append_assoc]) [[bx b10 (A0 f ⟨va r16.q,y1.length,r16.k⟩) 106],[bx b3 (G0 at_) 24],[bx b2 (A0 g ⟨gRowsq,gRows.length,gRowsk⟩) 26],[bx b1 (A0 f ⟨fQ,fR.length,fK⟩) 26],[bx b7 (A0 g ⟨gRowsq,gRows.length,gRowsk⟩) 26],[bx b5 (A0 f ⟨fQ,fR.length,fK⟩) 26],[bx b4 (A0 FrmC.zero ⟨none,0,0⟩) 26],vo C3 69 r16 rs17] rfl (by first|rfl|simp only [List.flatten_cons,List.flatten_nil,List.append_nil,List.cons_append,List.nil_append,List.append_assoc]))) fun ⟨⟨r16,rs17⟩,hp20⟩=>?_
 try dsimp only at hp20
 obtain ⟨hk18,hw19⟩:=hp20
 have:=VOk.le hk18
 have:=VOk.cap hk18
 have:=hw19.1
 refine ie (sr 4 rfl (zrg 4 0 [0,6] [(7,iv 0)] (bx b10 (A0 f ⟨va r16.q,y1.length,r16.k⟩) 106::bx b3 (G0 at_) 24::bx b2 (A0 g ⟨gRowsq,gRows.length,gRowsk⟩) 26::bx b1 (A0 f ⟨fQ,fR.length,fK⟩) 26::bx b7 (A0 g ⟨gRowsq,gRows.length,gRowsk⟩) 26::bx b5 (A0 f ⟨fQ,fR.length,fK⟩) 26::bx b4 (A0 f ⟨va r16.q,y1.length,r16.k⟩) 26::(vo C3 69 r16 rs17)++([])) ?_))
 subst hR
 refine ie (B4 ?_)
 exact zer hr hD (S0 rfl (J1 (us:=A0 f ⟨va r16.q,y1.length,r16.k⟩) A6o rfl 6 rfl rfl rfl) (B5 rfl)) ⟨(r16,rs17),⟨hk18,hw19⟩⟩ (mc [[bx b10 (A0 f ⟨va r16.q,y1.length,r16.k⟩) 106],[bx b3 (G0 at_) 24],[bx b2 (A0 g ⟨gRowsq,gRows.length,gRowsk⟩) 26],[bx b1 (A0 f ⟨fQ,fR.length,fK⟩) 26],[bx b7 (A0 g ⟨gRowsq,gRows.length,gRowsk⟩) 26],[bx b5 (A0 f ⟨fQ,fR.length,fK⟩) 26],[bx b4 (A0 f ⟨va r16.q,y1.length,r16.k⟩) 26],vo C3 69 r16 rs17] [false,false,false,false,false,false,false,true] rfl (by first|rfl|(simp only [List.length_set]<;>rfl))) (A5.con1 (B9 0 rfl) fn0)
end Go.Proofs.YthcjfkljekdioaaGreatDoor
