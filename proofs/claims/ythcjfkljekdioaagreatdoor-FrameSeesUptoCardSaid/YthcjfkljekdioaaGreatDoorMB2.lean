import Derived.Test.YthcjfkljekdioaaGreatDoorProg
import Derived.Test.YthcjfkljekdioaaGreatDoorMA2
import Derived.Test.YthcjfkljekdioaaGreatDoorMB1
set_option linter.unusedVariables false
set_option linter.unusedSimpArgs false
set_option linter.unnecessarySimpa false
set_option maxRecDepth 100000
namespace Go.Proofs.YthcjfkljekdioaaGreatDoor
open Go Go.Fen
theorem C7t:MapTy Tryz.prog 178 3 176 (.int .i64):=⟨by kernel_rfl,by kernel_rfl,rfl⟩
theorem A0k:SlTy Tryz.prog 22 69 1:=⟨by kernel_rfl,by kernel_rfl⟩
theorem A3e:Ty Tryz.prog 69 1 false:=⟨by kernel_rfl⟩
theorem D3o:Ty Tryz.prog 81 6 true:=⟨by kernel_rfl⟩
def A8s:Unit :=
 ()
theorem C0x (R:Unit) (hR:A8s=R):Con Tryz.prog 125 [] [] [] (Nat) (fun x=>.map (some x)) (fun x=>[(x,.map #[⟨iv 44,.func (.func 192) #[] #[],0⟩,⟨iv 45,.func (.func 195) #[] #[],1⟩,⟨iv 46,.func (.func 198) #[] #[],2⟩] 3)]) (fun x=>[]):=by
 refine zco Tryz.func125 [] fun X hX hr hD=>?_
 replace hR:=(A8s.eq_1 ..).symm.trans hR
 refine sr 1 rfl (ip' 1 0 [] ?_)
 refine ie (sr 6 rfl (it rfl (A9v rfl) fun b1=>?_))
 refine C4l (m:=2) (mo:=1) (es':=[⟨iv 44,.func (.func 192) #[] #[],0⟩,⟨iv 45,.func (.func 195) #[] #[],1⟩,⟨iv 46,.func (.func 198) #[] #[],2⟩]) C7t rfl 0 3 1 0 [] _ rfl (by kernel_rfl) ?_
 refine C4v (L':=[(b1,.map #[⟨iv 44,.func (.func 192) #[] #[],0⟩,⟨iv 45,.func (.func 195) #[] #[],1⟩,⟨iv 46,.func (.func 198) #[] #[],2⟩] 3)]) rfl ?_
 refine ip' 2 0 [(0,.map (some b1))] ?_
 subst hR
 refine ie (A7 ?_)
 exact zer hr hD (P3 rfl (B1 rfl)) b1 (mk [true] rfl) fn0
def U9 (p0n:Int) (p0m:Int) (p0color:Col) (p0text:List UInt8):Option (List UInt8) :=
 (Option.bind (A1q true) fun (r:Unit)=>(Option.bind (A5g (⟨44,p0n,p0m,p0color,p0text⟩:Act)) fun (r1:List UInt8)=>(some r1)))
theorem B8c (p0n:Int) (p0m:Int) (p0color:Col) (p0text:List UInt8) (p0p:Addr) (hs:p0text.length≤100000000) (R:Option (List UInt8)) (hR:U9 p0n p0m p0color p0text=R):B7u Tryz.prog 124 [pa p0p] [] [at_ p0p (H0 (⟨44,p0n,p0m,p0color,p0text⟩:Act))] A1k R (fun r=>sv r):=by
 refine A7h (n:=16) Tryz.func124 rfl (by kernel_rfl) rfl rfl [(0,pa p0p)] ⟨rfl,trivial⟩ fun X hX hr hD=>?_
 replace hR:=(U9.eq_1 ..).symm.trans hR
 refine sr 1 rfl (ip' 1 0 [] ?_)
 refine ie (sh 9 [] [at_ p0p (H0 (⟨44,p0n,p0m,p0color,p0text⟩:Act))] [] (zml 9 0) (by kernel_rfl) rfl (by kernel_rfl) (by kernel_rfl) (by kernel_rfl) (mk [] rfl) A2.refl ?_)
 refine zhp [1] 8 (zml 9 2) [(6,pa p0p)] ?_
 refine zhk 2 (zml 9 6) rfl (C8 (v:=iv 44) (us:=[iv 44]) ty3 rfl rfl (A0g (B5 0 rfl) (ws:=[iv 44]) 1 rfl) rfl) ?_
 refine zho 0 [] (zml 9 7) rfl (H2 (L2:=[]) (C0x _ rfl) rfl rfl rfl rfl rfl fn0 (List.Perm.refl _) (fun b1=>[(b1,.map #[⟨iv 44,.func (.func 192) #[] #[],0⟩,⟨iv 45,.func (.func 195) #[] #[],1⟩,⟨iv 46,.func (.func 198) #[] #[],2⟩] 3)]) (fun _=>rfl)) (fun b1=>(mk [false] rfl)) (fun b1=>A2.refl) fun b1=>?_
 refine zho 3 [] (zml 9 15) rfl (Det.tri (I9.det (A5r (v:=.func (.func 192) #[] #[]) (j:=0) C7t rfl rfl rfl 0 rfl (by kernel_rfl)))) (fun _=>(mk [false] rfl)) (fun _=>A2.refl) fun _=>?_
 refine zhp [4,5,6,7,8] 0 (zml 9 511) [(2,.func (.func 192) #[] #[]),(3,bv true)] ?_
 refine B0r (by kernel_rfl) ?_
 refine sr 2 rfl (ip' 1 1 [(11,bv true)] ?_)
 refine A5v (L2:=[(b1,.map #[⟨iv 44,.func (.func 192) #[] #[],0⟩,⟨iv 45,.func (.func 195) #[] #[],1⟩,⟨iv 46,.func (.func 198) #[] #[],2⟩] 3)]) (A8b true _ rfl) rfl rfl rfl rfl rfl rfl fn0 (List.Perm.refl _) (fun r hs2=>?_) (fun hn3=>?_)
 ·replace hR:=B6h hR hs2
  have hmu:=A3y hs2;try simp only [Bool.and_eq_true,decide_eq_true_eq] at hmu
  refine ie (sr 4 rfl (ip' 1 3 [(13,.func (.func 192) #[] #[])] ?_))
  refine ix rfl (L4 (us:=H0 (⟨44,p0n,p0m,p0color,p0text⟩:Act)) D3o rfl rfl (B5 0 rfl) rfl) ?_
  refine A5v (L2:=[(b1,.map #[⟨iv 44,.func (.func 192) #[] #[],0⟩,⟨iv 45,.func (.func 195) #[] #[],1⟩,⟨iv 46,.func (.func 198) #[] #[],2⟩] 3)]) (B6r (⟨44,p0n,p0m,p0color,p0text⟩:Act) (by first|omega|(dsimp only;omega)) _ rfl) rfl rfl rfl rfl rfl rfl fn0 (List.Perm.refl _) (fun r1 hs4=>?_) (fun hn5=>?_)
  ·replace hR:=B6h hR hs4
   refine ip' 1 0 [(1,sv r1)] ?_
   refine ie (A7 ?_)
   exact B9i rfl ⟨hr,hD⟩ (by simp [hD]) (P3 rfl (B1 rfl)) hR.symm rfl
  ·replace hR:=B6m hR hn5
   exact Z7 ⟨hr,hD⟩ hR.symm
 ·replace hR:=B6m hR hn3
  exact Z7 ⟨hr,hD⟩ hR.symm
def B0p (an:Int) (am:Int) (acolor:Col) (atext:List UInt8):List UInt8×Int :=
 (bif (!((B0d (U9 an am acolor atext)).2)) then (([]:List UInt8),2) else ((B0d (U9 an am acolor atext)).1,0))
theorem C4d (an:Int) (am:Int) (acolor:Col) (atext:List UInt8) (hs:atext.length≤100000000) (R:List UInt8×Int) (hR:B0p an am acolor atext=R):I6 Tryz.prog 72 [ag (H0 (⟨44,an,am,acolor,atext⟩:Act))] [] (.tuple #[sv R.1,iv R.2]):=by
 refine zco Tryz.func72 [(0,ag (H0 (⟨44,an,am,acolor,atext⟩:Act)))] fun X hX hr hD=>?_
 replace hR:=(B0p.eq_1 ..).symm.trans hR
 refine sr 3 rfl (it rfl (C0s (cs:=H0 (⟨44,an,am,acolor,atext⟩:Act)) rfl rfl rfl) fun b1=>?_)
 refine C8b 0 rfl ?_
 refine ip' 2 0 [] ?_
 refine ie (sr 7 rfl (ip' 1 6 [(7,.func (.func 124) #[] #[pa ⟨b1,0,none⟩])] ?_))
 refine zca (D2j (cap:=[pa ⟨b1,0,none⟩]) _ (B8c an am acolor atext ⟨b1,0,none⟩ (by omega) _ rfl)) A2.refl ?_
 refine ip' 5 0 [(4,sv ((B0d (U9 an am acolor atext)).1)),(5,bv ((B0d (U9 an am acolor atext)).2))] ?_
 refine ie (A3 (sr 2 rfl (ip' 2 0 [(12,bv (!((B0d (U9 an am acolor atext)).2)))] ?_)))
 refine ie ?_
 refine zjb rfl hR ?_ ?_<;>clear hR<;>intro hR h2
 ·refine sr 2 rfl (ip' 2 0 [(2,sv ([]:List UInt8)),(3,iv 2)] ?_)
  subst hR
  refine ie (A7 ?_)
  exact A7m hr hD
 refine A4 (nx (sr 3 rfl (ip' 3 0 [(2,sv ((B0d (U9 an am acolor atext)).1)),(3,iv 0)] ?_)))
 subst hR
 refine ie (A7 ?_)
 exact A7m hr hD
def J7 (an:Int) (am:Int) (acolor:Col) (atext:List UInt8):Int :=
 (F1 (B0p an am acolor atext) fun (y0:List UInt8×Int)=>(bif (!decide (y0.2=0)) then 200 else 0))
theorem A5t (an:Int) (am:Int) (acolor:Col) (atext:List UInt8) (hs:atext.length≤100000000) (R:Int) (hR:J7 an am acolor atext=R):I6 Tryz.prog 34 [ag (H0 (⟨44,an,am,acolor,atext⟩:Act))] [] (iv R):=by
 refine zco Tryz.func34 [(0,ag (H0 (⟨44,an,am,acolor,atext⟩:Act)))] fun X hX hr hD=>?_
 replace hR:=(J7.eq_1 ..).symm.trans hR
 refine sr 2 rfl (I7 2 0 [] (fun b1=>[(1,pt b1 0)]) (fun b1=>[bx b1 (H0 (⟨44,an,am,acolor,atext⟩:Act)) 81]) (fun b1=>?_))
 refine ie (sr 1 rfl (ip' 1 0 [(3,iv 0)] ?_))
 refine ie (A3 (sr 2 rfl (zrl 2 0 [0] [(7,iv 44)] ?_)))
 refine ie (B0 (sr 2 rfl (ip' 2 0 [(44,bv false)] ?_)))
 refine ie (A0m rfl (sr 2 rfl (ip' 2 0 [(59,bv false)] ?_)))
 refine ie (A0m rfl (A3 (sr 2 rfl (ip' 2 0 [(63,bv true)] ?_))))
 refine ie (H8 rfl (A4 (nx (H8 rfl (A5 6 rfl (zrl 1 5 [0] [(68,ag (H0 (⟨44,an,am,acolor,atext⟩:Act)))] ?_))))))
 have hQ:=G6 hR;clear hR;obtain ⟨y0,hy0,hR⟩:=hQ
 refine zca (C4d an am acolor atext (by first|omega|(simp only [List.length_nil];omega)) y0 hy0) fn0 ?_
 refine ip' 4 0 [(3,iv y0.2)] ?_
 refine A1 (nx (A3 (sr 2 rfl (ip' 2 0 [(73,bv (!decide (y0.2=0)))] ?_))))
 refine ie ?_
 refine zjn rfl hR ?_ ?_<;>clear hR<;>intro hR h2 h2p
 ·refine sr 1 rfl (ip' 1 0 [(2,iv 200)] ?_)
  subst hR
  refine ie (A7 ?_)
  exact D5 hr hD
 refine A4 (nx (sr 1 rfl (ip' 1 0 [(2,iv 0)] ?_)))
 subst hR
 refine ie (A7 ?_)
 exact D5 hr hD
def R5 (f:FrmC):List (List Cel)→Bool→Nat→Int
 | [],ok,t77=>(bif (!ok) then 330 else 0)
 | hd_l0::tl_l0,ok,t77=>(bif (!((ok&&(decide ((hd_l0.length:Int)=f.cols)))&&(decide ((H9 hd_l0 false)=0)))) then (bif (!((ok&&(decide ((hd_l0.length:Int)=f.cols)))&&(decide ((H9 hd_l0 false)=0)))) then 330 else 0) else R5 f tl_l0 ((ok&&(decide ((hd_l0.length:Int)=f.cols)))&&(decide ((H9 hd_l0 false)=0))) (t77+1))
def H4 (f:FrmC) (fR:List (List Cel)):Int :=
 R5 f fR (((((((((((decide ((2:Int)≤f.cols))&&(decide (f.cols≤80)))&&(decide ((1:Int)≤(fR.length:Int))))&&(decide ((fR.length:Int)≤40)))&&(decide ((0:Int)≤f.cursor.row)))&&(decide (f.cursor.row<(fR.length:Int))))&&(decide ((0:Int)≤f.cursor.col)))&&(decide (f.cursor.col<f.cols)))&&(decide ((0:Int)≤f.shape)))&&(decide (f.shape≤6)))&&(decide ((J7 0 0 Col.zero f.title)=0))) 0
theorem A6q (f:FrmC):∀ (rows:List (List Cel)) (ok:Bool) (t:Nat),R5 f rows ok t=0→ok=true∧∀ r ∈ rows,(r.length:Int)=f.cols∧H9 r false=0
 | [],ok,t=>by cases ok<;>simp [R5]
 | r::rows,ok,t=>by
  intro h
  simp only [R5] at h
  generalize hb:((ok&&decide ((r.length:Int)=f.cols))&&decide (H9 r false=0))=b at h
  cases b with
  | false=>simp at h
  | true =>
   have h1:=A6q f rows true (t+1) (by simpa using h)
   simp only [Bool.and_eq_true,decide_eq_true_eq] at hb
   refine ⟨hb.1.1,fun x hx=>?_⟩
   rcases List.mem_cons.1 hx with rfl | hx
   ·exact ⟨hb.1.2,hb.2⟩
   ·exact h1.2 x hx
theorem A3d {f:FrmC} {fR:List (List Cel)} (h:H4 f fR=0) :
  2≤f.cols∧f.cols≤80∧1≤fR.length∧fR.length≤40∧∀ i,i<fR.length→((fR.getD i []).length:Int)=f.cols:=by
 unfold H4 at h
 obtain ⟨h1,h2⟩:=A6q _ _ _ _ h
 simp only [Bool.and_eq_true,decide_eq_true_eq] at h1
 refine ⟨by omega,by omega,by omega,by omega,fun i hi=>?_⟩
 have:=(h2 _ (List.getElem_mem hi)).1
 simpa [List.getD_eq_getElem?_getD,hi] using this
theorem A3z (f:FrmC) (fR:List (List Cel)) (fQ:Option Addr) (fZ:List Slc) (fK:Nat) (hrowsfRowsrs:C7 fZ fR) (hlfRows:fR.length≤9223372036854775807) (hcfRows:fR.length≤fK) (hT:f.title.length≤100000000) (R:Int) (hR:H4 f fR=R):I6 Tryz.prog 14 [ag (A0 f ⟨fQ,fR.length,fK⟩)] [sl C4 fQ fZ,G5 B2 fZ fR,A0z,A1a] (iv R):=by
 refine zco Tryz.func14 [(0,ag (A0 f ⟨fQ,fR.length,fK⟩))] fun X hX hr hD=>?_
 replace hR:=(H4.eq_1 ..).symm.trans hR
 have:=hrowsfRowsrs.1
 refine sr 2 rfl (I7 2 0 [] (fun b1=>[(1,pt b1 0)]) (fun b1=>[bx b1 (A0 f ⟨fQ,fR.length,fK⟩) 26]) (fun b1=>?_))
 refine ie (D0o (sr 21 rfl (zrl 4 17 [0] [(9,bv (decide ((2:Int)≤f.cols)))] ?_)))
 refine zid 4 13 9 13 (decide (f.cols≤80)) (fun g2 g2p=>?_) ?_
 ·refine zrl 4 0 [0] [(13,bv (decide (f.cols≤80)))] ?_
  exact zai 2 9 13 g2
 refine ip' 1 12 [(14,bv ((decide ((2:Int)≤f.cols))&&(decide (f.cols≤80))))] ?_
 refine zia 5 7 14 19 (decide ((1:Int)≤(fR.length:Int))) (fun g3=>?_) ?_
 ·have g3p:((2:Int)≤f.cols)∧(f.cols≤80):=by simpa using g3
  refine zrl 5 0 [0] [(19,bv (decide ((1:Int)≤(fR.length:Int))))] ?_
  exact zai 2 14 19 g3
 refine ip' 1 6 [(20,bv (((decide ((2:Int)≤f.cols))&&(decide (f.cols≤80)))&&(decide ((1:Int)≤(fR.length:Int)))))] ?_
 refine zia 5 1 20 25 (decide ((fR.length:Int)≤40)) (fun g4=>?_) ?_
 ·have g4p:(((2:Int)≤f.cols)∧(f.cols≤80))∧((1:Int)≤(fR.length:Int)):=by simpa using g4
  refine zrl 5 0 [0] [(25,bv (decide ((fR.length:Int)≤40)))] ?_
  exact zai 2 20 25 g4
 refine ip' 1 0 [(3,bv ((((decide ((2:Int)≤f.cols))&&(decide (f.cols≤80)))&&(decide ((1:Int)≤(fR.length:Int))))&&(decide ((fR.length:Int)≤40))))] ?_
 refine ie (sr 31 rfl (ip' 2 29 [(27,bv ((((decide ((2:Int)≤f.cols))&&(decide (f.cols≤80)))&&(decide ((1:Int)≤(fR.length:Int))))&&(decide ((fR.length:Int)≤40))))] ?_))
 refine zia 5 24 27 32 (decide ((0:Int)≤f.cursor.row)) (fun g5=>?_) ?_
 ·have g5p:((((2:Int)≤f.cols)∧(f.cols≤80))∧((1:Int)≤(fR.length:Int)))∧((fR.length:Int)≤40):=by simpa using g5
  refine zrl 5 0 [0] [(32,bv (decide ((0:Int)≤f.cursor.row)))] ?_
  exact zai 2 27 32 g5
 refine ip' 1 23 [(33,bv (((((decide ((2:Int)≤f.cols))&&(decide (f.cols≤80)))&&(decide ((1:Int)≤(fR.length:Int))))&&(decide ((fR.length:Int)≤40)))&&(decide ((0:Int)≤f.cursor.row))))] ?_
 refine zia 8 15 33 41 (decide (f.cursor.row<(fR.length:Int))) (fun g6=>?_) ?_
 ·have g6p:(((((2:Int)≤f.cols)∧(f.cols≤80))∧((1:Int)≤(fR.length:Int)))∧((fR.length:Int)≤40))∧((0:Int)≤f.cursor.row):=by simpa using g6
  refine zrl 8 0 [0,0] [(41,bv (decide (f.cursor.row<(fR.length:Int))))] ?_
  exact zai 2 33 41 g6
 refine ip' 1 14 [(42,bv ((((((decide ((2:Int)≤f.cols))&&(decide (f.cols≤80)))&&(decide ((1:Int)≤(fR.length:Int))))&&(decide ((fR.length:Int)≤40)))&&(decide ((0:Int)≤f.cursor.row)))&&(decide (f.cursor.row<(fR.length:Int)))))] ?_
 refine zia 5 9 42 47 (decide ((0:Int)≤f.cursor.col)) (fun g7=>?_) ?_
 ·have g7p:((((((2:Int)≤f.cols)∧(f.cols≤80))∧((1:Int)≤(fR.length:Int)))∧((fR.length:Int)≤40))∧((0:Int)≤f.cursor.row))∧(f.cursor.row<(fR.length:Int)):=by simpa using g7
  refine zrl 5 0 [0] [(47,bv (decide ((0:Int)≤f.cursor.col)))] ?_
  exact zai 2 42 47 g7
 refine ip' 1 8 [(48,bv (((((((decide ((2:Int)≤f.cols))&&(decide (f.cols≤80)))&&(decide ((1:Int)≤(fR.length:Int))))&&(decide ((fR.length:Int)≤40)))&&(decide ((0:Int)≤f.cursor.row)))&&(decide (f.cursor.row<(fR.length:Int))))&&(decide ((0:Int)≤f.cursor.col))))] ?_
 refine zia 7 1 48 55 (decide (f.cursor.col<f.cols)) (fun g8=>?_) ?_
 ·have g8p:(((((((2:Int)≤f.cols)∧(f.cols≤80))∧((1:Int)≤(fR.length:Int)))∧((fR.length:Int)≤40))∧((0:Int)≤f.cursor.row))∧(f.cursor.row<(fR.length:Int)))∧((0:Int)≤f.cursor.col):=by simpa using g8
  refine zrl 7 0 [0,0] [(55,bv (decide (f.cursor.col<f.cols)))] ?_
  exact zai 2 48 55 g8
 refine ip' 1 0 [(3,bv ((((((((decide ((2:Int)≤f.cols))&&(decide (f.cols≤80)))&&(decide ((1:Int)≤(fR.length:Int))))&&(decide ((fR.length:Int)≤40)))&&(decide ((0:Int)≤f.cursor.row)))&&(decide (f.cursor.row<(fR.length:Int))))&&(decide ((0:Int)≤f.cursor.col)))&&(decide (f.cursor.col<f.cols))))] ?_
 refine ie (sr 19 rfl (ip' 2 17 [(57,bv ((((((((decide ((2:Int)≤f.cols))&&(decide (f.cols≤80)))&&(decide ((1:Int)≤(fR.length:Int))))&&(decide ((fR.length:Int)≤40)))&&(decide ((0:Int)≤f.cursor.row)))&&(decide (f.cursor.row<(fR.length:Int))))&&(decide ((0:Int)≤f.cursor.col)))&&(decide (f.cursor.col<f.cols))))] ?_))
 refine zia 4 13 57 61 (decide ((0:Int)≤f.shape)) (fun g9=>?_) ?_
 ·have g9p:((((((((2:Int)≤f.cols)∧(f.cols≤80))∧((1:Int)≤(fR.length:Int)))∧((fR.length:Int)≤40))∧((0:Int)≤f.cursor.row))∧(f.cursor.row<(fR.length:Int)))∧((0:Int)≤f.cursor.col))∧(f.cursor.col<f.cols):=by simpa using g9
  refine zrl 4 0 [0] [(61,bv (decide ((0:Int)≤f.shape)))] ?_
  exact zai 2 57 61 g9
 refine ip' 1 12 [(62,bv (((((((((decide ((2:Int)≤f.cols))&&(decide (f.cols≤80)))&&(decide ((1:Int)≤(fR.length:Int))))&&(decide ((fR.length:Int)≤40)))&&(decide ((0:Int)≤f.cursor.row)))&&(decide (f.cursor.row<(fR.length:Int))))&&(decide ((0:Int)≤f.cursor.col)))&&(decide (f.cursor.col<f.cols)))&&(decide ((0:Int)≤f.shape))))] ?_
 refine zia 4 8 62 66 (decide (f.shape≤6)) (fun g10=>?_) ?_
 ·have g10p:(((((((((2:Int)≤f.cols)∧(f.cols≤80))∧((1:Int)≤(fR.length:Int)))∧((fR.length:Int)≤40))∧((0:Int)≤f.cursor.row))∧(f.cursor.row<(fR.length:Int)))∧((0:Int)≤f.cursor.col))∧(f.cursor.col<f.cols))∧((0:Int)≤f.shape):=by simpa using g10
  refine zrl 4 0 [0] [(66,bv (decide (f.shape≤6)))] ?_
  exact zai 2 62 66 g10
 refine ip' 1 7 [(67,bv ((((((((((decide ((2:Int)≤f.cols))&&(decide (f.cols≤80)))&&(decide ((1:Int)≤(fR.length:Int))))&&(decide ((fR.length:Int)≤40)))&&(decide ((0:Int)≤f.cursor.row)))&&(decide (f.cursor.row<(fR.length:Int))))&&(decide ((0:Int)≤f.cursor.col)))&&(decide (f.cursor.col<f.cols)))&&(decide ((0:Int)≤f.shape)))&&(decide (f.shape≤6))))] ?_
 refine zia 6 1 67 73 (decide ((J7 0 0 Col.zero f.title)=0)) (fun g11=>?_) ?_
 ·have g11p:((((((((((2:Int)≤f.cols)∧(f.cols≤80))∧((1:Int)≤(fR.length:Int)))∧((fR.length:Int)≤40))∧((0:Int)≤f.cursor.row))∧(f.cursor.row<(fR.length:Int)))∧((0:Int)≤f.cursor.col))∧(f.cursor.col<f.cols))∧((0:Int)≤f.shape))∧(f.shape≤6):=by simpa using g11
  refine zrl 3 3 [0] [(70,ag (H0 ({Act.zero with kind:=44,text:=f.title})))] ?_
  refine zca (A5t 0 0 Col.zero f.title (by first|omega|(simp only [List.length_nil];omega)) _ rfl) fn0 ?_
  refine ip' 2 0 [(73,bv (decide ((J7 0 0 Col.zero f.title)=0)))] ?_
  exact zai 4 67 73 g11
 refine ip' 1 0 [(3,bv (((((((((((decide ((2:Int)≤f.cols))&&(decide (f.cols≤80)))&&(decide ((1:Int)≤(fR.length:Int))))&&(decide ((fR.length:Int)≤40)))&&(decide ((0:Int)≤f.cursor.row)))&&(decide (f.cursor.row<(fR.length:Int))))&&(decide ((0:Int)≤f.cursor.col)))&&(decide (f.cursor.col<f.cols)))&&(decide ((0:Int)≤f.shape)))&&(decide (f.shape≤6)))&&(decide ((J7 0 0 Col.zero f.title)=0))))] ?_
 refine ie (A3 (D1l (nx (A3 (sr 4 rfl (zrl 4 0 [0] [(75,.slice fQ fR.length fK),(76,iv (fR.length:Int)),(77,iv 0)] ?_))))))
 refine ie (B0 (C9d (fun (ok:Bool) (t77:Nat)=>(t77≤fR.length∧R5 f (fR.drop t77) ok t77=R,[(1,pt b1 0),(3,bv ok),(75,.slice fQ fR.length fK),(76,iv (fR.length:Int)),(77,iv (t77:Int))],[bx b1 (A0 f ⟨fQ,fR.length,fK⟩) 26],[sl C4 fQ fZ,G5 B2 fZ fR,A0z,A1a],fR.length - t77)) (((((((((((decide ((2:Int)≤f.cols))&&(decide (f.cols≤80)))&&(decide ((1:Int)≤(fR.length:Int))))&&(decide ((fR.length:Int)≤40)))&&(decide ((0:Int)≤f.cursor.row)))&&(decide (f.cursor.row<(fR.length:Int))))&&(decide ((0:Int)≤f.cursor.col)))&&(decide (f.cursor.col<f.cols)))&&(decide ((0:Int)≤f.shape)))&&(decide (f.shape≤6)))&&(decide ((J7 0 0 Col.zero f.title)=0))) 0 ⟨(by omega),hR⟩ (mk [true] rfl) A2.refl ?_))
 rintro ok t77 ⟨hm12,hR⟩
 refine sr 1 rfl (ip' 1 0 [(78,bv (decide ((t77:Int)<(fR.length:Int))))] ?_)
 refine ie (A3 (S2 rfl (fun h13=>?_) (fun h13=>?_)))
 ·have h13p:(t77:Int)<(fR.length:Int):=by simpa using h13
  rw [U1 [] (show t77<fR.length by omega)] at hR;replace hR:=(R5.eq_2 ..).symm.trans hR
  refine A4 (nx (A3 (B0 (sr 3 rfl (J3 0 rfl (by have:=hrowsfRowsrs.1;omega) fun a14 hq15=>?_)))))
  refine H6 (P9 (k:=t77) (d:=(⟨none,0,0⟩:Slc)) hrowsfRowsrs 1 rfl (by have:=hrowsfRowsrs.1;omega)) ?_
  have:=P8 hrowsfRowsrs (k:=t77) (d:=(⟨none,0,0⟩:Slc)) (by have:=hrowsfRowsrs.1;omega)
  refine ix rfl (E8 A0k rfl rfl hq15 rfl t77 rfl (by omega)) ?_
  refine ix rfl (F9 (C8 (v:=.slice ((fZ.getD t77 (⟨none,0,0⟩:Slc)).q) ((fZ.getD t77 (⟨none,0,0⟩:Slc)).n) ((fZ.getD t77 (⟨none,0,0⟩:Slc)).k)) (us:=[.slice ((fZ.getD t77 (⟨none,0,0⟩:Slc)).q) ((fZ.getD t77 (⟨none,0,0⟩:Slc)).n) ((fZ.getD t77 (⟨none,0,0⟩:Slc)).k)]) A3e rfl rfl (G0 (c:=C4) (sz:=1) hq15 (fun _=>rfl) 1 rfl (gd (⟨none,0,0⟩:Slc) (by have:=hrowsfRowsrs.1;omega))) rfl) (Q7 hrowsfRowsrs (by have:=hrowsfRowsrs.1;omega))) ?_
  refine ip' 1 0 [(5,.slice ((fZ.getD t77 (⟨none,0,0⟩:Slc)).q) ((fR.getD t77 []).length) ((fZ.getD t77 (⟨none,0,0⟩:Slc)).k))] ?_
  refine ie (sr 15 rfl (ip' 2 13 [(82,bv ok)] ?_))
  refine zia 6 7 82 88 (decide (((fR.getD t77 []).length:Int)=f.cols)) (fun g16=>?_) ?_
  ·refine zrl 6 0 [0] [(88,bv (decide (((fR.getD t77 []).length:Int)=f.cols)))] ?_
   exact zai 2 82 88 g16
  refine ip' 1 6 [(89,bv (ok&&(decide (((fR.getD t77 []).length:Int)=f.cols))))] ?_
  refine zia 5 1 89 94 (decide ((H9 (fR.getD t77 []) false)=0)) (fun g17=>?_) ?_
  ·have g17p:=g17;try simp only [Bool.and_eq_true,Bool.or_eq_true,Bool.and_eq_false_iff,Bool.or_eq_false_iff,Bool.not_eq_true',Bool.not_eq_false',decide_eq_true_eq,decide_eq_false_iff_not] at g17p
   refine zrl 2 3 [] [(91,ag [.slice ((fZ.getD t77 (⟨none,0,0⟩:Slc)).q) ((fR.getD t77 []).length) ((fZ.getD t77 (⟨none,0,0⟩:Slc)).k),bv false])] ?_
   refine zca (A9n (fR.getD t77 []) false ((fZ.getD t77 (⟨none,0,0⟩:Slc)).q) ((fZ.getD t77 (⟨none,0,0⟩:Slc)).k) (by first|omega|(simp only [List.length_take,List.length_drop,List.length_append,List.length_cons,List.length_nil,List.length_set,List.length_map,A8s];omega)|decide) (by first|omega|(simp only [List.length_take,List.length_drop,List.length_append,List.length_cons,List.length_nil,List.length_set,List.length_map,A8s];omega)|decide) _ rfl) (A2.pick [0,3,4] rfl) ?_
   refine ip' 2 0 [(94,bv (decide ((H9 (fR.getD t77 []) false)=0)))] ?_
   exact zai 4 89 94 g17
  refine ip' 1 0 [(3,bv ((ok&&(decide (((fR.getD t77 []).length:Int)=f.cols)))&&(decide ((H9 (fR.getD t77 []) false)=0))))] ?_
  refine ie (sr 2 rfl (ip' 2 0 [(96,bv (!((ok&&(decide (((fR.getD t77 []).length:Int)=f.cols)))&&(decide ((H9 (fR.getD t77 []) false)=0)))))] ?_))
  refine ie ?_
  refine zjb rfl hR ?_ ?_<;>clear hR<;>intro hR h18
  ·have h18p:=h18;try simp only [Bool.and_eq_true,Bool.or_eq_true,Bool.and_eq_false_iff,Bool.or_eq_false_iff,Bool.not_eq_true',Bool.not_eq_false',decide_eq_true_eq,decide_eq_false_iff_not] at h18p
   refine G2 (nx (A3 (sr 2 rfl (ip' 2 0 [(99,bv (!((ok&&(decide (((fR.getD t77 []).length:Int)=f.cols)))&&(decide ((H9 (fR.getD t77 []) false)=0)))))] ?_))))
   refine ie ?_
   refine zjb rfl hR ?_ ?_<;>clear hR<;>intro hR h19
   ·have h19p:=h19;try simp only [Bool.and_eq_true,Bool.or_eq_true,Bool.and_eq_false_iff,Bool.or_eq_false_iff,Bool.not_eq_true',Bool.not_eq_false',decide_eq_true_eq,decide_eq_false_iff_not] at h19p
    refine sr 1 rfl (ip' 1 0 [(2,iv 330)] ?_)
    subst hR
    refine ie (A7 ?_)
    exact D5 hr hD
   have h19p:=h19;try simp only [Bool.and_eq_true,Bool.or_eq_true,Bool.and_eq_false_iff,Bool.or_eq_false_iff,Bool.not_eq_true',Bool.not_eq_false',decide_eq_true_eq,decide_eq_false_iff_not] at h19p
   refine A4 (nx (sr 1 rfl (ip' 1 0 [(2,iv 0)] ?_)))
   subst hR
   refine ie (A7 ?_)
   exact D5 hr hD
  have h18p:=h18;try simp only [Bool.and_eq_true,Bool.or_eq_true,Bool.and_eq_false_iff,Bool.or_eq_false_iff,Bool.not_eq_true',Bool.not_eq_false',decide_eq_true_eq,decide_eq_false_iff_not] at h18p
  refine A4 (nx (A5 2 rfl (ix rfl (B4 rfl rfl rfl rfl (by omega)) ?_)))
  refine ip' 1 0 [(77,iv ((t77:Int)+1))] ?_
  refine A1 ?_
  exact C9t (z1:=ok) (z2:=t77) ((ok&&(decide (((fR.getD t77 []).length:Int)=f.cols)))&&(decide ((H9 (fR.getD t77 []) false)=0))) (t77+1) ⟨(by omega),hR⟩ (by (try dsimp only);omega) (mk [true] rfl) (A2.pick [1,2,3,4] rfl)
 have h13p:¬ ((t77:Int)<(fR.length:Int)):=by simpa using h13
 rw [U2 h13p] at hR;replace hR:=(R5.eq_1 ..).symm.trans hR
 refine G2 (nx (A3 (sr 2 rfl (ip' 2 0 [(99,bv (!ok))] ?_))))
 refine ie ?_
 refine zjb rfl hR ?_ ?_<;>clear hR<;>intro hR h20
 ·refine sr 1 rfl (ip' 1 0 [(2,iv 330)] ?_)
  subst hR
  refine ie (A7 ?_)
  exact D5 hr hD
 refine A4 (nx (sr 1 rfl (ip' 1 0 [(2,iv 0)] ?_)))
 subst hR
 refine ie (A7 ?_)
 exact D5 hr hD
end Go.Proofs.YthcjfkljekdioaaGreatDoor
set_option linter.unusedVariables false
set_option linter.unusedSimpArgs false
set_option linter.unnecessarySimpa false
set_option maxRecDepth 100000
namespace Go.Proofs.YthcjfkljekdioaaGreatDoor
open Go Go.Fen
theorem D2h:EqT Tryz.prog 24 L7:=EqT.of 20 rfl (by kernel_rfl) (by kernel_rfl) (fun _ _=>by kernel_rfl) L7.inj
def E6 (s2:List Cel):List Cel→Nat→Bool
 | [],t13=>true
 | hd_l0::tl_l0,t13=>(bif (!(decide (hd_l0=(s2.getD t13 Cel.zero)))) then false else E6 s2 tl_l0 (t13+1))
def H5 (s1:List Cel) (s2:List Cel):Bool :=
 (bif (!decide ((s1.length:Int)=(s2.length:Int))) then false else E6 s2 s1 0)
theorem A2x (s1:List Cel) (s2:List Cel) (s1q:Option Addr) (s1k:Nat) (s2q:Option Addr) (s2k:Nat) (hls1:s1.length≤9223372036854775807) (hcs1:s1.length≤s1k) (hls2:s2.length≤9223372036854775807) (hcs2:s2.length≤s2k) (R:Bool) (hR:H5 s1 s2=R):I6 Tryz.prog 37 [.slice s1q s1.length s1k,.slice s2q s2.length s2k] [sl B2 s1q s1,sl B2 s2q s2] (bv R):=by
 refine zco Tryz.func37 [(0,.slice s1q s1.length s1k),(1,.slice s2q s2.length s2k)] fun X hX hr hD=>?_
 replace hR:=(H5.eq_1 ..).symm.trans hR
 refine sr 1 rfl (ip' 1 0 [] ?_)
 refine ie (A3 (sr 5 rfl (ip' 5 0 [(10,bv (!decide ((s1.length:Int)=(s2.length:Int))))] ?_)))
 refine ie ?_
 refine zjn rfl hR ?_ ?_<;>clear hR<;>intro hR h1 h1p
 ·refine sr 1 rfl (ip' 1 0 [(4,bv false)] ?_)
  subst hR
  refine ie (A7 ?_)
  exact D5 hr hD
 refine A4 (nx (A3 (sr 3 rfl (ip' 3 0 [(12,iv (s1.length:Int)),(13,iv 0)] ?_))))
 refine ie (B0 (B3w (fun (t13:Nat)=>(t13≤s1.length∧E6 s2 (s1.drop t13) t13=R,[(0,.slice s1q s1.length s1k),(1,.slice s2q s2.length s2k),(12,iv (s1.length:Int)),(13,iv (t13:Int))],[],[sl B2 s1q s1,sl B2 s2q s2],s1.length - t13)) 0 ⟨(by omega),hR⟩ (mk [] rfl) A2.refl ?_))
 rintro t13 ⟨hm2,hR⟩
 refine sr 1 rfl (ip' 1 0 [(14,bv (decide ((t13:Int)<(s1.length:Int))))] ?_)
 refine ie (A3 (S2 rfl (fun h3=>?_) (fun h3=>?_)))
 ·have h3p:(t13:Int)<(s1.length:Int):=by simpa using h3
  rw [U1 Cel.zero (show t13<s1.length by omega)] at hR;replace hR:=(E6.eq_2 ..).symm.trans hR
  refine A4 (nx (A3 (B0 (sr 2 rfl (ip' 2 0 [(5,iv (t13:Int))] ?_)))))
  refine ie (sd 9 rfl (by kernel_rfl) rfl ?_)
  refine dp' 2 7 [(16,.slice s1q s1.length s1k),(17,iv (t13:Int))] ?_
  refine A4a 0 rfl (by omega) fun a4 hq5=>?_
  refine dd rfl (E8 S9 rfl rfl hq5 rfl t13 rfl (by omega)) ?_
  refine dd rfl (L4 (us:=B2 (s1.getD t13 Cel.zero)) B8o rfl rfl (G0 (c:=B2) (sz:=12) hq5 (fun _=>rfl) 0 rfl (gd Cel.zero (by omega))) rfl) ?_
  refine dp' 2 3 [(20,.slice s2q s2.length s2k),(21,iv (t13:Int))] ?_
  refine A4a 1 rfl (by omega) fun a6 hq7=>?_
  refine dd rfl (E8 S9 rfl rfl hq7 rfl t13 rfl (by omega)) ?_
  refine dd rfl (L4 (us:=B2 (s2.getD t13 Cel.zero)) B8o rfl rfl (G0 (c:=B2) (sz:=12) hq7 (fun _=>rfl) 1 rfl (gd Cel.zero (by omega))) rfl) ?_
  refine dd rfl (A5i (a:=(s1.getD t13 Cel.zero)) (b:=(s2.getD t13 Cel.zero)) C9f rfl rfl rfl) ?_
  refine de ?_
  refine zjn rfl hR ?_ ?_<;>clear hR<;>intro hR h8 h8p
  ·refine sr 1 rfl (ip' 1 0 [(4,bv false)] ?_)
   subst hR
   refine ie (A7 ?_)
   exact D5 hr hD
  refine A4 (nx (A5 2 rfl (ix rfl (B4 rfl rfl rfl rfl (by omega)) ?_)))
  refine ip' 1 0 [(13,iv ((t13:Int)+1))] ?_
  refine A1 ?_
  exact B4g (z1:=t13) (t13+1) ⟨(by omega),hR⟩ (by (try dsimp only);omega) (mk [] rfl) A2.refl
 have h3p:¬ ((t13:Int)<(s1.length:Int)):=by simpa using h3
 rw [U2 h3p] at hR;replace hR:=(E6.eq_1 ..).symm.trans hR
 refine G2 (nx (sr 1 rfl (ip' 1 0 [(4,bv true)] ?_)))
 subst hR
 refine ie (A7 ?_)
 exact D5 hr hD
def B9 (s2:List (List Cel)):List (List Cel)→Nat→Bool
 | [],t17=>true
 | hd_l0::tl_l0,t17=>(bif (!(H5 hd_l0 (s2.getD t17 []))) then false else B9 s2 tl_l0 (t17+1))
def C3 (s1:List (List Cel)) (s2:List (List Cel)):Bool :=
 (bif (!decide ((s1.length:Int)=(s2.length:Int))) then false else B9 s2 s1 0)
theorem S7 (s1:List (List Cel)) (s2:List (List Cel)) (s1q:Option Addr) (s1rs:List Slc) (s1k:Nat) (s2q:Option Addr) (s2rs:List Slc) (s2k:Nat) (hrowss1rs:C7 s1rs s1) (hls1:s1.length≤9223372036854775807) (hcs1:s1.length≤s1k) (hrowss2rs:C7 s2rs s2) (hls2:s2.length≤9223372036854775807) (hcs2:s2.length≤s2k) (R:Bool) (hR:C3 s1 s2=R):I6 Tryz.prog 36 [.slice s1q s1.length s1k,.slice s2q s2.length s2k,.func (.func 37) #[] #[]] [sl C4 s1q s1rs,G5 B2 s1rs s1,sl C4 s2q s2rs,G5 B2 s2rs s2] (bv R):=by
 refine zco Tryz.func36 [(0,.slice s1q s1.length s1k),(1,.slice s2q s2.length s2k),(2,.func (.func 37) #[] #[])] fun X hX hr hD=>?_
 replace hR:=(C3.eq_1 ..).symm.trans hR
 have:=hrowss1rs.1
 have:=hrowss2rs.1
 refine sr 1 rfl (ip' 1 0 [] ?_)
 refine ie (A3 (sr 5 rfl (ip' 5 0 [(14,bv (!decide ((s1.length:Int)=(s2.length:Int))))] ?_)))
 refine ie ?_
 refine zjn rfl hR ?_ ?_<;>clear hR<;>intro hR h1 h1p
 ·refine sr 1 rfl (ip' 1 0 [(6,bv false)] ?_)
  subst hR
  refine ie (A7 ?_)
  exact D5 hr hD
 refine A4 (nx (A3 (sr 3 rfl (ip' 3 0 [(15,.slice s1q s1.length s1k),(16,iv (s1.length:Int)),(17,iv 0)] ?_))))
 refine ie (B0 (B3w (fun (t17:Nat)=>(t17≤s1.length∧B9 s2 (s1.drop t17) t17=R,[(1,.slice s2q s2.length s2k),(2,.func (.func 37) #[] #[]),(15,.slice s1q s1.length s1k),(16,iv (s1.length:Int)),(17,iv (t17:Int))],[],[sl C4 s1q s1rs,G5 B2 s1rs s1,sl C4 s2q s2rs,G5 B2 s2rs s2],s1.length - t17)) 0 ⟨(by omega),hR⟩ (mk [] rfl) A2.refl ?_))
 rintro t17 ⟨hm2,hR⟩
 refine sr 1 rfl (ip' 1 0 [(18,bv (decide ((t17:Int)<(s1.length:Int))))] ?_)
 refine ie (A3 (S2 rfl (fun h3=>?_) (fun h3=>?_)))
 ·have h3p:(t17:Int)<(s1.length:Int):=by simpa using h3
  rw [U1 [] (show t17<s1.length by omega)] at hR;replace hR:=(B9.eq_2 ..).symm.trans hR
  refine A4 (nx (A3 (B0 (sr 5 rfl (ip' 1 4 [(19,iv (t17:Int))] ?_)))))
  refine J3 0 rfl (by have:=hrowss1rs.1;omega) fun a4 hq5=>?_
  refine H6 (P9 (k:=t17) (d:=(⟨none,0,0⟩:Slc)) hrowss1rs 1 rfl (by have:=hrowss1rs.1;omega)) ?_
  have:=P8 hrowss1rs (k:=t17) (d:=(⟨none,0,0⟩:Slc)) (by have:=hrowss1rs.1;omega)
  refine ix rfl (E8 A0k rfl rfl hq5 rfl t17 rfl (by omega)) ?_
  refine ix rfl (F9 (C8 (v:=.slice ((s1rs.getD t17 (⟨none,0,0⟩:Slc)).q) ((s1rs.getD t17 (⟨none,0,0⟩:Slc)).n) ((s1rs.getD t17 (⟨none,0,0⟩:Slc)).k)) (us:=[.slice ((s1rs.getD t17 (⟨none,0,0⟩:Slc)).q) ((s1rs.getD t17 (⟨none,0,0⟩:Slc)).n) ((s1rs.getD t17 (⟨none,0,0⟩:Slc)).k)]) A3e rfl rfl (G0 (c:=C4) (sz:=1) hq5 (fun _=>rfl) 1 rfl (gd (⟨none,0,0⟩:Slc) (by have:=hrowss1rs.1;omega))) rfl) (Q7 hrowss1rs (by have:=hrowss1rs.1;omega))) ?_
  refine ip' 2 0 [(7,iv (t17:Int)),(8,.slice ((s1rs.getD t17 (⟨none,0,0⟩:Slc)).q) ((s1.getD t17 []).length) ((s1rs.getD t17 (⟨none,0,0⟩:Slc)).k))] ?_
  refine ie (sr 5 rfl (ip' 2 3 [(22,.slice s2q s2.length s2k),(23,iv (t17:Int))] ?_))
  refine J3 3 rfl (by have:=hrowss2rs.1;omega) fun a6 hq7=>?_
  refine H6 (P9 (k:=t17) (d:=(⟨none,0,0⟩:Slc)) hrowss2rs 4 rfl (by have:=hrowss2rs.1;omega)) ?_
  have:=P8 hrowss2rs (k:=t17) (d:=(⟨none,0,0⟩:Slc)) (by have:=hrowss2rs.1;omega)
  refine ix rfl (E8 A0k rfl rfl hq7 rfl t17 rfl (by omega)) ?_
  refine ix rfl (F9 (C8 (v:=.slice ((s2rs.getD t17 (⟨none,0,0⟩:Slc)).q) ((s2rs.getD t17 (⟨none,0,0⟩:Slc)).n) ((s2rs.getD t17 (⟨none,0,0⟩:Slc)).k)) (us:=[.slice ((s2rs.getD t17 (⟨none,0,0⟩:Slc)).q) ((s2rs.getD t17 (⟨none,0,0⟩:Slc)).n) ((s2rs.getD t17 (⟨none,0,0⟩:Slc)).k)]) A3e rfl rfl (G0 (c:=C4) (sz:=1) hq7 (fun _=>rfl) 4 rfl (gd (⟨none,0,0⟩:Slc) (by have:=hrowss2rs.1;omega))) rfl) (Q7 hrowss2rs (by have:=hrowss2rs.1;omega))) ?_
  refine ip' 1 0 [(9,.slice ((s2rs.getD t17 (⟨none,0,0⟩:Slc)).q) ((s2.getD t17 []).length) ((s2rs.getD t17 (⟨none,0,0⟩:Slc)).k))] ?_
  refine ie (sr 5 rfl (ip' 3 2 [(26,.func (.func 37) #[] #[]),(27,.slice ((s1rs.getD t17 (⟨none,0,0⟩:Slc)).q) ((s1.getD t17 []).length) ((s1rs.getD t17 (⟨none,0,0⟩:Slc)).k)),(28,.slice ((s2rs.getD t17 (⟨none,0,0⟩:Slc)).q) ((s2.getD t17 []).length) ((s2rs.getD t17 (⟨none,0,0⟩:Slc)).k))] ?_))
  refine zca (A2x (s1.getD t17 []) (s2.getD t17 []) ((s1rs.getD t17 (⟨none,0,0⟩:Slc)).q) ((s1rs.getD t17 (⟨none,0,0⟩:Slc)).k) ((s2rs.getD t17 (⟨none,0,0⟩:Slc)).q) ((s2rs.getD t17 (⟨none,0,0⟩:Slc)).k) (by first|omega|(simp only [List.length_take,List.length_drop,List.length_append,List.length_cons,List.length_nil,List.length_set,List.length_map];omega)|decide) (by first|omega|(simp only [List.length_take,List.length_drop,List.length_append,List.length_cons,List.length_nil,List.length_set,List.length_map];omega)|decide) (by first|omega|(simp only [List.length_take,List.length_drop,List.length_append,List.length_cons,List.length_nil,List.length_set,List.length_map];omega)|decide) (by first|omega|(simp only [List.length_take,List.length_drop,List.length_append,List.length_cons,List.length_nil,List.length_set,List.length_map];omega)|decide) _ rfl) (A2.pick [1,0] rfl) ?_
  refine ip' 1 0 [(30,bv (!(H5 (s1.getD t17 []) (s2.getD t17 []))))] ?_
  refine ie ?_
  refine zjb rfl hR ?_ ?_<;>clear hR<;>intro hR h8
  ·refine sr 1 rfl (ip' 1 0 [(6,bv false)] ?_)
   subst hR
   refine ie (A7 ?_)
   exact D5 hr hD
  refine A4 (nx (A5 2 rfl (ix rfl (B4 rfl rfl rfl rfl (by omega)) ?_)))
  refine ip' 1 0 [(17,iv ((t17:Int)+1))] ?_
  refine A1 ?_
  exact B4g (z1:=t17) (t17+1) ⟨(by omega),hR⟩ (by (try dsimp only);omega) (mk [] rfl) (A2.pick [2,3,4,5] rfl)
 have h3p:¬ ((t17:Int)<(s1.length:Int)):=by simpa using h3
 rw [U2 h3p] at hR;replace hR:=(B9.eq_1 ..).symm.trans hR
 refine G2 (nx (sr 1 rfl (ip' 1 0 [(6,bv true)] ?_)))
 subst hR
 refine ie (A7 ?_)
 exact D5 hr hD
def W4 (a:FrmC) (aR:List (List Cel)) (b:FrmC) (bR:List (List Cel)):Bool :=
 ((((((decide (a.cols=b.cols))&&(decide (a.cursor=b.cursor)))&&(a.visible == b.visible))&&(decide (a.shape=b.shape)))&&(decide (a.title=b.title)))&&(C3 aR bR))
theorem C0l (a:FrmC) (aR:List (List Cel)) (b:FrmC) (bR:List (List Cel)) (aQ:Option Addr) (aZ:List Slc) (aK:Nat) (bQ:Option Addr) (bZ:List Slc) (bK:Nat) (hrowsaRowsrs:C7 aZ aR) (hlaRows:aR.length≤9223372036854775807) (hcaRows:aR.length≤aK) (hrowsbRowsrs:C7 bZ bR) (hlbRows:bR.length≤9223372036854775807) (hcbRows:bR.length≤bK) (R:Bool) (hR:W4 a aR b bR=R):I6 Tryz.prog 15 [ag (A0 a ⟨aQ,aR.length,aK⟩),ag (A0 b ⟨bQ,bR.length,bK⟩)] [sl C4 aQ aZ,G5 B2 aZ aR,sl C4 bQ bZ,G5 B2 bZ bR] (bv R):=by
 refine zco Tryz.func15 [(0,ag (A0 a ⟨aQ,aR.length,aK⟩)),(1,ag (A0 b ⟨bQ,bR.length,bK⟩))] fun X hX hr hD=>?_
 replace hR:=(W4.eq_1 ..).symm.trans hR
 have:=hrowsaRowsrs.1
 have:=hrowsbRowsrs.1
 refine sr 3 rfl (A8y 3 0 [] (fun b1 b2=>[(2,pt b1 0),(3,pt b2 0)]) (fun b1 b2=>[bx b2 (A0 b ⟨bQ,bR.length,bK⟩) 26,bx b1 (A0 a ⟨aQ,aR.length,aK⟩) 26]) (fun b1 b2=>?_))
 refine ie (sr 34 rfl (zrl 6 28 [1,0] [(11,bv (decide (a.cols=b.cols)))] ?_))
 refine zid 6 22 11 17 (decide (a.cursor=b.cursor)) (fun g3 g3p=>?_) ?_
 ·refine zrl 4 2 [1,0] [(13,ag (L7 a.cursor)),(15,ag (L7 b.cursor))] ?_
  refine ix rfl (A6t (a:=a.cursor) (b:=b.cursor) D2h rfl rfl rfl) ?_
  refine ip' 1 0 [(17,bv (decide (a.cursor=b.cursor)))] ?_
  exact zai 5 11 17 g3
 refine ip' 1 21 [(18,bv ((decide (a.cols=b.cols))&&(decide (a.cursor=b.cursor))))] ?_
 refine zia 6 15 18 24 (a.visible == b.visible) (fun g4=>?_) ?_
 ·have g4p:(a.cols=b.cols)∧(a.cursor=b.cursor):=by simpa using g4
  refine zrl 4 2 [1,0] [(20,bv a.visible),(22,bv b.visible)] ?_
  refine ix rfl (C5p Tryz.underlying4 rfl rfl rfl) ?_
  refine ip' 1 0 [(24,bv (a.visible == b.visible))] ?_
  exact zai 5 18 24 g4
 refine ip' 1 14 [(25,bv (((decide (a.cols=b.cols))&&(decide (a.cursor=b.cursor)))&&(a.visible == b.visible)))] ?_
 refine zia 6 8 25 31 (decide (a.shape=b.shape)) (fun g5=>?_) ?_
 ·have g5p:=g5;try simp only [Bool.and_eq_true,Bool.or_eq_true,Bool.and_eq_false_iff,Bool.or_eq_false_iff,Bool.not_eq_true',Bool.not_eq_false',decide_eq_true_eq,decide_eq_false_iff_not] at g5p
  refine zrl 6 0 [1,0] [(31,bv (decide (a.shape=b.shape)))] ?_
  exact zai 2 25 31 g5
 refine ip' 1 7 [(32,bv ((((decide (a.cols=b.cols))&&(decide (a.cursor=b.cursor)))&&(a.visible == b.visible))&&(decide (a.shape=b.shape))))] ?_
 refine zia 6 1 32 38 (decide (a.title=b.title)) (fun g6=>?_) ?_
 ·have g6p:=g6;try simp only [Bool.and_eq_true,Bool.or_eq_true,Bool.and_eq_false_iff,Bool.or_eq_false_iff,Bool.not_eq_true',Bool.not_eq_false',decide_eq_true_eq,decide_eq_false_iff_not] at g6p
  refine zrl 4 2 [1,0] [(34,sv a.title),(36,sv b.title)] ?_
  refine ix rfl (B6z rfl rfl rfl) ?_
  refine ip' 1 0 [(38,bv (decide (a.title=b.title)))] ?_
  exact zai 5 32 38 g6
 refine ip' 1 0 [(5,bv (((((decide (a.cols=b.cols))&&(decide (a.cursor=b.cursor)))&&(a.visible == b.visible))&&(decide (a.shape=b.shape)))&&(decide (a.title=b.title))))] ?_
 refine ie (sr 9 rfl (ip' 2 7 [(40,bv (((((decide (a.cols=b.cols))&&(decide (a.cursor=b.cursor)))&&(a.visible == b.visible))&&(decide (a.shape=b.shape)))&&(decide (a.title=b.title))))] ?_))
 refine zia 6 1 40 46 (C3 aR bR) (fun g7=>?_) ?_
 ·have g7p:=g7;try simp only [Bool.and_eq_true,Bool.or_eq_true,Bool.and_eq_false_iff,Bool.or_eq_false_iff,Bool.not_eq_true',Bool.not_eq_false',decide_eq_true_eq,decide_eq_false_iff_not] at g7p
  refine zrl 4 2 [1,0] [(42,.slice aQ aR.length aK),(44,.slice bQ bR.length bK)] ?_
  refine zca (S7 aR bR aQ aZ aK bQ bZ bK hrowsaRowsrs (by first|omega|(simp only [List.length_take,List.length_drop,List.length_append,List.length_cons,List.length_nil,List.length_set,List.length_map];omega)|decide) (by first|omega|(simp only [List.length_take,List.length_drop,List.length_append,List.length_cons,List.length_nil,List.length_set,List.length_map];omega)|decide) hrowsbRowsrs (by first|omega|(simp only [List.length_take,List.length_drop,List.length_append,List.length_cons,List.length_nil,List.length_set,List.length_map];omega)|decide) (by first|omega|(simp only [List.length_take,List.length_drop,List.length_append,List.length_cons,List.length_nil,List.length_set,List.length_map];omega)|decide) _ rfl) A2.refl ?_
  refine ip' 1 0 [(46,bv (C3 aR bR))] ?_
  exact zai 5 40 46 g7
 refine ip' 1 0 [(4,bv ((((((decide (a.cols=b.cols))&&(decide (a.cursor=b.cursor)))&&(a.visible == b.visible))&&(decide (a.shape=b.shape)))&&(decide (a.title=b.title)))&&(C3 aR bR)))] ?_
 subst hR
 refine ie (A7 ?_)
 exact D5 hr hD
end Go.Proofs.YthcjfkljekdioaaGreatDoor
set_option linter.unusedVariables false
set_option linter.unusedSimpArgs false
set_option linter.unnecessarySimpa false
set_option maxRecDepth 100000
namespace Go.Proofs.YthcjfkljekdioaaGreatDoor
open Go Go.Fen
theorem C2j:ApTy Tryz.prog 22 69 1 24:=⟨by kernel_rfl,by kernel_rfl,rfl⟩
theorem A7f:Ty Tryz.prog 26 7 true:=⟨by kernel_rfl⟩
def G8 (s:ScrC) (sMain:List (Rwc Cel)) (sAlt:List (Rwc Cel)) (sTabs:List Bool):Unit :=
 ()
theorem B9w (s:ScrC) (sMain:List (Rwc Cel)) (sAlt:List (Rwc Cel)) (sTabs:List Bool) (sMainq:Option Addr) (sMainrs:List Rwq) (sMaink:Nat) (sAltq:Option Addr) (sAltrs:List Rwq) (sAltk:Nat) (sTabsq:Option Addr) (sTabsk:Nat) (hrowssMainrs:D0 sMainrs sMain) (hlsMain:sMain.length≤9223372036854775807) (hcsMain:sMain.length≤sMaink) (hrowssAltrs:D0 sAltrs sAlt) (hlsAlt:sAlt.length≤9223372036854775807) (hcsAlt:sAlt.length≤sAltk) (hlsTabs:sTabs.length≤9223372036854775807) (hcsTabs:sTabs.length≤sTabsk) (R:Unit) (hR:G8 s sMain sAlt sTabs=R):Con Tryz.prog 78 [ag (A6 s ⟨sMainq,sMain.length,sMaink⟩ ⟨sAltq,sAlt.length,sAltk⟩ ⟨none,0,0⟩ ⟨sTabsq,sTabs.length,sTabsk⟩)] [] [sl B7 sMainq sMainrs,B8 B2 sMainrs sMain,sl B7 sAltq sAltrs,B8 B2 sAltrs sAlt,sl F4 sTabsq sTabs] (Nat) (fun x=>.func (.func 133) #[] #[pt x 0]) (fun x=>[bx x (A6 s ⟨sMainq,sMain.length,sMaink⟩ ⟨sAltq,sAlt.length,sAltk⟩ ⟨none,0,0⟩ ⟨sTabsq,sTabs.length,sTabsk⟩) 52]) (fun x=>[]):=by
 refine zco Tryz.func78 [(0,ag (A6 s ⟨sMainq,sMain.length,sMaink⟩ ⟨sAltq,sAlt.length,sAltk⟩ ⟨none,0,0⟩ ⟨sTabsq,sTabs.length,sTabsk⟩))] fun X hX hr hD=>?_
 replace hR:=(G8.eq_1 ..).symm.trans hR
 have:=hrowssMainrs.1
 have:=hrowssAltrs.1
 refine sr 2 rfl (I7 2 0 [] (fun b1=>[(1,pt b1 0)]) (fun b1=>[bx b1 (A6 s ⟨sMainq,sMain.length,sMaink⟩ ⟨sAltq,sAlt.length,sAltk⟩ ⟨none,0,0⟩ ⟨sTabsq,sTabs.length,sTabsk⟩) 52]) (fun b1=>?_))
 refine ie (sr 2 rfl (ip' 2 0 [(2,.func (.func 133) #[] #[pt b1 0])] ?_))
 subst hR
 refine ie (A7 ?_)
 exact zer hr hD (P3 rfl (B1 rfl)) b1 (mk [true] rfl) fn0
def S5:List (Rwc Cel)→Nat→List (List Cel)
 | [],t14=>[]
 | hd_l0::tl_l0,t14=>(((hd_l0.l).take (hd_l0.l.length))::S5 tl_l0 (t14+1))
def A0h (l1:List (Rwc Cel)):List (List Cel) :=
 S5 l1 0
def A1j (c0:ScrC) (c0Main:List (Rwc Cel)) (c0Alt:List (Rwc Cel)) (c0Tabs:List Bool):List (List Cel) :=
 (bif c0.onAlt then A0h c0Alt else A0h c0Main)
theorem A5b:∀ (l:List (Rwc Cel)) (t:Nat),(S5 l t).length=l.length
 | [],t=>rfl
 | a::l,t=>by simp only [S5,List.length_cons,A5b l (t+1)]
theorem A5c (l:List (Rwc Cel)):(A0h l).length=l.length:=A5b l 0
theorem B7c (c0:ScrC) (c0Main:List (Rwc Cel)) (c0Alt:List (Rwc Cel)) (c0Tabs:List Bool) (c0b:Nat) (c0Mainq:Option Addr) (c0Mainrs:List Rwq) (c0Maink:Nat) (c0Altq:Option Addr) (c0Altrs:List Rwq) (c0Altk:Nat) (c0Tabsq:Option Addr) (c0Tabsk:Nat) (hrowsc0Mainrs:D0 c0Mainrs c0Main) (hlc0Main:c0Main.length≤9223372036854775807) (hcc0Main:c0Main.length≤c0Maink) (hrowsc0Altrs:D0 c0Altrs c0Alt) (hlc0Alt:c0Alt.length≤9223372036854775807) (hcc0Alt:c0Alt.length≤c0Altk) (hlc0Tabs:c0Tabs.length≤9223372036854775807) (hcc0Tabs:c0Tabs.length≤c0Tabsk) (R:List (List Cel)) (hR:A1j c0 c0Main c0Alt c0Tabs=R):B2i Tryz.prog 133 [pt c0b 0] [bx c0b (A6 c0 ⟨c0Mainq,c0Main.length,c0Maink⟩ ⟨c0Altq,c0Alt.length,c0Altk⟩ ⟨none,0,0⟩ ⟨c0Tabsq,c0Tabs.length,c0Tabsk⟩) 52] [sl B7 c0Mainq c0Mainrs,B8 B2 c0Mainrs c0Main,sl B7 c0Altq c0Altrs,B8 B2 c0Altrs c0Alt,sl F4 c0Tabsq c0Tabs] B2 R:=by
 refine B6f [bx c0b (A6 c0 ⟨c0Mainq,c0Main.length,c0Maink⟩ ⟨c0Altq,c0Alt.length,c0Altk⟩ ⟨none,0,0⟩ ⟨c0Tabsq,c0Tabs.length,c0Tabsk⟩) 52] (n:=31) Tryz.func133 rfl (by kernel_rfl) rfl rfl (fun l=>[(0,.func (.yield l) #[] #[]),(1,pt c0b 0)]) (fun l=>⟨rfl,rfl,trivial⟩) fun X l I Ix L Φ hX hr hD hI0 hY=>?_
 replace hR:=(A1j.eq_1 ..).symm.trans hR
 have:=hrowsc0Mainrs.1
 have:=hrowsc0Altrs.1
 refine sr 3 rfl (zrl 3 0 [0] [(3,.slice c0Mainq c0Main.length c0Maink)] ?_)
 refine ie (D5t (fun (l1:List (Rwc Cel)) (lq:Option Addr) (lrs:List Rwq) (lk:Nat) (R_:List (List Cel)) (Lt:Fen.Own) (Ft:List Pers)=>(A0h l1=R_∧l1.length≤lk∧l1.length≤9223372036854775807∧D0 lrs l1∧I R_ Lt Ft,[(0,.func (.yield l) #[] #[]),(3,.slice lq l1.length lk)],(bx c0b (A6 c0 ⟨c0Mainq,c0Main.length,c0Maink⟩ ⟨c0Altq,c0Alt.length,c0Altk⟩ ⟨none,0,0⟩ ⟨c0Tabsq,c0Tabs.length,c0Tabsk⟩) 52::Lt++([])),(sl B7 c0Mainq c0Mainrs::B8 B2 c0Mainrs c0Main::sl B7 c0Altq c0Altrs::B8 B2 c0Altrs c0Alt::sl F4 c0Tabsq c0Tabs::sl B7 lq lrs::B8 B2 lrs l1::Ft))) ?_ ?_)
 ·refine sr 2 rfl (zrl 2 0 [0] [(9,bv c0.onAlt)] ?_)
  refine ie ?_
  refine zjb rfl hR ?_ ?_<;>clear hR<;>intro hR h1
  ·refine A5 3 rfl (zrl 3 0 [0] [(3,.slice c0Altq c0Alt.length c0Altk)] ?_)
   refine A1 ?_
   exact D1h c0Alt c0Altq c0Altrs c0Altk R L Φ ⟨hR,(by first|omega|(simp only [List.length_take,List.length_drop,List.length_append,List.length_cons,List.length_nil,List.length_set,List.length_map,G8];omega)|decide),(by first|omega|(simp only [List.length_take,List.length_drop,List.length_append,List.length_cons,List.length_nil,List.length_set,List.length_map,G8];omega)|decide),hrowsc0Altrs,hI0⟩ (mc [[bx c0b (A6 c0 ⟨c0Mainq,c0Main.length,c0Maink⟩ ⟨c0Altq,c0Alt.length,c0Altk⟩ ⟨none,0,0⟩ ⟨c0Tabsq,c0Tabs.length,c0Tabsk⟩) 52],L] [true,true] rfl (by first|rfl|(simp only [List.length_set]<;>rfl))) (A2.con1 (B5 0 rfl) (A2.con1 (B5 1 rfl) (A2.con1 (B5 2 rfl) (A2.con1 (B5 3 rfl) (A2.con1 (B5 4 rfl) (A2.con1 (B5 2 rfl) (A2.con1 (B5 3 rfl) (A2.dropT 5 rfl))))))))
  refine A4 ?_
  exact D1h c0Main c0Mainq c0Mainrs c0Maink R L Φ ⟨hR,(by first|omega|(simp only [List.length_take,List.length_drop,List.length_append,List.length_cons,List.length_nil,List.length_set,List.length_map,G8];omega)|decide),(by first|omega|(simp only [List.length_take,List.length_drop,List.length_append,List.length_cons,List.length_nil,List.length_set,List.length_map,G8];omega)|decide),hrowsc0Mainrs,hI0⟩ (mc [[bx c0b (A6 c0 ⟨c0Mainq,c0Main.length,c0Maink⟩ ⟨c0Altq,c0Alt.length,c0Altk⟩ ⟨none,0,0⟩ ⟨c0Tabsq,c0Tabs.length,c0Tabsk⟩) 52],L] [true,true] rfl (by first|rfl|(simp only [List.length_set]<;>rfl))) (A2.con1 (B5 0 rfl) (A2.con1 (B5 1 rfl) (A2.con1 (B5 2 rfl) (A2.con1 (B5 3 rfl) (A2.con1 (B5 4 rfl) (A2.con1 (B5 0 rfl) (A2.con1 (B5 1 rfl) (A2.dropT 5 rfl))))))))
 intro l1 lq lrs lk R_ Lt Ft
 rintro ⟨hR,hcl1,hll1,hrowslrs,hILt⟩
 replace hR:=(A0h.eq_1 ..).symm.trans hR
 refine sr 3 rfl (ip' 3 0 [(12,.slice lq l1.length lk),(13,iv (l1.length:Int)),(14,iv 0)] ?_)
 refine ie (B0 ?_)
 refine B2k (fun (t14:Nat) (R_1:List (List Cel)) (Lt1:Fen.Own) (Ft1:List Pers)=>(t14≤l1.length∧S5 (l1.drop t14) t14=R_1∧I R_1 Lt1 Ft1,[(0,.func (.yield l) #[] #[]),(12,.slice lq l1.length lk),(13,iv (l1.length:Int)),(14,iv (t14:Int))],(bx c0b (A6 c0 ⟨c0Mainq,c0Main.length,c0Maink⟩ ⟨c0Altq,c0Alt.length,c0Altk⟩ ⟨none,0,0⟩ ⟨c0Tabsq,c0Tabs.length,c0Tabsk⟩) 52::Lt1++([])),(sl B7 c0Mainq c0Mainrs::B8 B2 c0Mainrs c0Main::sl B7 c0Altq c0Altrs::B8 B2 c0Altrs c0Alt::sl F4 c0Tabsq c0Tabs::sl B7 lq lrs::B8 B2 lrs l1::Ft1),l1.length - t14)) 0 R_ Lt Ft ⟨(by omega),hR,hILt⟩ (mc [[bx c0b (A6 c0 ⟨c0Mainq,c0Main.length,c0Maink⟩ ⟨c0Altq,c0Alt.length,c0Altk⟩ ⟨none,0,0⟩ ⟨c0Tabsq,c0Tabs.length,c0Tabsk⟩) 52],Lt] [true,true] rfl (by first|rfl|(simp only [List.length_set]<;>rfl))) (A2.con1 (B5 0 rfl) (A2.con1 (B5 1 rfl) (A2.con1 (B5 2 rfl) (A2.con1 (B5 3 rfl) (A2.con1 (B5 4 rfl) (A2.con1 (B5 5 rfl) (A2.con1 (B5 6 rfl) (A2.dropT 7 rfl)))))))) ?_
 rintro t14 R_1 Lt1 Ft1 ⟨hm2,hR,hILt1⟩
 refine sr 1 rfl (ip' 1 0 [(15,bv (decide ((t14:Int)<(l1.length:Int))))] ?_)
 refine ie (A3 (S2 rfl (fun h3=>?_) (fun h3=>?_)))
 ·have h3p:(t14:Int)<(l1.length:Int):=by simpa using h3
  rw [U1 zwc (show t14<l1.length by omega)] at hR;replace hR:=(S5.eq_2 ..).symm.trans hR
  refine A4 (nx (A3 (B0 (sr 4 rfl (J3 5 rfl (by have:=hrowslrs.1;omega) fun a4 hq5=>?_)))))
  refine H6 (B3x (k:=t14) hrowslrs 6 rfl (by have:=hrowslrs.1;omega)) ?_
  have:=A7w hrowslrs (k:=t14) (by have:=hrowslrs.1;omega)
  refine ix rfl (E8 A5a rfl rfl hq5 rfl t14 rfl (by omega)) ?_
  refine ix rfl (F9 (L4 (us:=[.slice ((lrs.getD t14 zwq).s.q) ((lrs.getD t14 zwq).s.n) ((lrs.getD t14 zwq).s.k),bv ((lrs.getD t14 zwq).b)]) B8a rfl rfl (G0 (c:=B7) (sz:=2) hq5 (fun _=>rfl) 6 rfl (gd zwq (by have:=hrowslrs.1;omega))) rfl) (B9h hrowslrs (by have:=hrowslrs.1;omega))) ?_
  refine I7 2 0 [0] (fun b6=>[(5,pt b6 0)]) (fun b6=>(bx b6 [.slice ((lrs.getD t14 zwq).s.q) ((l1.getD t14 zwc).l.length) ((lrs.getD t14 zwq).s.k),bv ((l1.getD t14 zwc).b)] 78::bx c0b (A6 c0 ⟨c0Mainq,c0Main.length,c0Maink⟩ ⟨c0Altq,c0Alt.length,c0Altk⟩ ⟨none,0,0⟩ ⟨c0Tabsq,c0Tabs.length,c0Tabsk⟩) 52::Lt1++([]))) (fun b6=>?_)
  refine ie (sr 12 rfl (zrl 9 3 [0,0,0] [(18,.func (.yield l) #[] #[]),(20,.slice ((lrs.getD t14 zwq).s.q) ((l1.getD t14 zwc).l.length) ((lrs.getD t14 zwq).s.k)),(23,iv ((l1.getD t14 zwc).l.length:Int)),(26,iv ((l1.getD t14 zwc).l.length:Int))] ?_))
  refine H6 (C0u (B5 0 rfl) ((l1.getD t14 zwc).l.length)) ?_
  refine ix rfl (A7j (n':=(((l1.getD t14 zwc).l).take ((l1.getD t14 zwc).l.length)).length) S9 rfl rfl ((l1.getD t14 zwc).l.length) ((l1.getD t14 zwc).l.length) (U6 rfl rfl) (U6 rfl rfl) (by omega) (by omega) (by first|rfl|omega|(simp only [List.length_take,List.length_drop];omega)|(simp;done)) rfl) ?_
  have:=@List.length_take _ ((l1.getD t14 zwc).l.length) ((l1.getD t14 zwc).l)
  have hq12:=C6i hR;clear hR;obtain ⟨R7,hR,hq12⟩:=hq12;rw [hq12] at hILt1
  refine it rfl (B0l (L2:=[bx b6 [.slice ((lrs.getD t14 zwq).s.q) ((l1.getD t14 zwc).l.length) ((lrs.getD t14 zwq).s.k),bv ((l1.getD t14 zwc).b)] 78,bx c0b (A6 c0 ⟨c0Mainq,c0Main.length,c0Maink⟩ ⟨c0Altq,c0Alt.length,c0Altk⟩ ⟨none,0,0⟩ ⟨c0Tabsq,c0Tabs.length,c0Tabsk⟩) 52]) (hY (((l1.getD t14 zwc).l).take ((l1.getD t14 zwc).l.length)) R7 _ _ ((lrs.getD t14 zwq).s.q) ((l1.getD t14 zwc).l.length) (by first|omega|(simp only [List.length_take,List.length_drop,List.length_append,List.length_cons,List.length_nil,List.length_set,List.length_map,G8];omega)|decide) (by first|omega|(simp only [List.length_take,List.length_drop,List.length_append,List.length_cons,List.length_nil,List.length_set,List.length_map,G8];omega)|decide) hILt1) rfl rfl rfl rfl (A2.con1 (B5 0 rfl) (A2.dropT 9 rfl)) (H3 [[bx b6 [.slice ((lrs.getD t14 zwq).s.q) ((l1.getD t14 zwc).l.length) ((lrs.getD t14 zwq).s.k),bv ((l1.getD t14 zwc).b)] 78],[bx c0b (A6 c0 ⟨c0Mainq,c0Main.length,c0Maink⟩ ⟨c0Altq,c0Alt.length,c0Altk⟩ ⟨none,0,0⟩ ⟨c0Tabsq,c0Tabs.length,c0Tabsk⟩) 52],Lt1] [2,0,1] 3 rfl (by decide) rfl [Lt1,[bx b6 [.slice ((lrs.getD t14 zwq).s.q) ((l1.getD t14 zwc).l.length) ((lrs.getD t14 zwq).s.k),bv ((l1.getD t14 zwc).b)] 78],[bx c0b (A6 c0 ⟨c0Mainq,c0Main.length,c0Maink⟩ ⟨c0Altq,c0Alt.length,c0Altk⟩ ⟨none,0,0⟩ ⟨c0Tabsq,c0Tabs.length,c0Tabsk⟩) 52]] rfl (by simp only [List.flatten_cons,List.flatten_nil,List.append_nil,List.cons_append,List.nil_append,List.append_assoc]))) fun ⟨⟨y8,L9,Φ10⟩,hy11⟩=>?_
  refine B5s (A2.yield [sl B2 ((lrs.getD t14 zwq).s.q) (((l1.getD t14 zwc).l).take ((l1.getD t14 zwc).l.length)),sl B2 ((lrs.getD t14 zwq).s.q) ((l1.getD t14 zwc).l),sl B7 c0Mainq c0Mainrs,B8 B2 c0Mainrs c0Main,sl B7 c0Altq c0Altrs,B8 B2 c0Altrs c0Alt,sl F4 c0Tabsq c0Tabs,sl B7 lq lrs,B8 B2 lrs l1]) ?_
  refine ip' 1 0 [(29,bv (!y8))] ?_
  refine ie (S2 rfl (fun h13=>?_) (fun h13=>?_))
  ·have h13b:y8=false:=by simpa using h13
   rw [h13b] at hy11;try simp only [if_true,if_false,Bool.false_eq_true] at hy11
   refine A7 ?_
   exact B4f rfl ⟨hr,hD⟩ (by simp [hD]) (B0s rfl) (L':=L9) (Φ':=Φ10) (by exact .inr hy11) (mcT [L9,[bx b6 [.slice ((lrs.getD t14 zwq).s.q) ((l1.getD t14 zwc).l.length) ((lrs.getD t14 zwq).s.k),bv ((l1.getD t14 zwc).b)] 78],[bx c0b (A6 c0 ⟨c0Mainq,c0Main.length,c0Maink⟩ ⟨c0Altq,c0Alt.length,c0Altk⟩ ⟨none,0,0⟩ ⟨c0Tabsq,c0Tabs.length,c0Tabsk⟩) 52]] 0 rfl rfl) (A2.dropT 9 rfl)
  ·have h13b:y8=true:=by simpa using h13
   rw [h13b] at hy11;try simp only [if_true,if_false,Bool.false_eq_true] at hy11
   refine A4 (nx (A5 2 rfl (ix rfl (B4 rfl rfl rfl rfl (by omega)) ?_)))
   refine ip' 1 0 [(14,iv ((t14:Int)+1))] ?_
   refine A1 (W7 (H3 [L9,[bx b6 [.slice ((lrs.getD t14 zwq).s.q) ((l1.getD t14 zwc).l.length) ((lrs.getD t14 zwq).s.k),bv ((l1.getD t14 zwc).b)] 78],[bx c0b (A6 c0 ⟨c0Mainq,c0Main.length,c0Maink⟩ ⟨c0Altq,c0Alt.length,c0Altk⟩ ⟨none,0,0⟩ ⟨c0Tabsq,c0Tabs.length,c0Tabsk⟩) 52]] [2,0,1] 3 rfl (by decide) rfl [[bx c0b (A6 c0 ⟨c0Mainq,c0Main.length,c0Maink⟩ ⟨c0Altq,c0Alt.length,c0Altk⟩ ⟨none,0,0⟩ ⟨c0Tabsq,c0Tabs.length,c0Tabsk⟩) 52],L9,[bx b6 [.slice ((lrs.getD t14 zwq).s.q) ((l1.getD t14 zwc).l.length) ((lrs.getD t14 zwq).s.k),bv ((l1.getD t14 zwc).b)] 78]] rfl (by first|rfl|simp)) ?_)
   exact B1k (z1:=t14) (z2:=R_1) (z3:=Lt1) (z4:=Ft1) (t14+1) R7 L9 Φ10 ⟨(by omega),hR,hy11⟩ (by (try dsimp only);omega) (mc [[bx c0b (A6 c0 ⟨c0Mainq,c0Main.length,c0Maink⟩ ⟨c0Altq,c0Alt.length,c0Altk⟩ ⟨none,0,0⟩ ⟨c0Tabsq,c0Tabs.length,c0Tabsk⟩) 52],L9,[bx b6 [.slice ((lrs.getD t14 zwq).s.q) ((l1.getD t14 zwc).l.length) ((lrs.getD t14 zwq).s.k),bv ((l1.getD t14 zwc).b)] 78]] [true,true,false] rfl (by first|rfl|(simp only [List.length_set]<;>rfl))) (A2.con1 (B5 2 rfl) (A2.con1 (B5 3 rfl) (A2.con1 (B5 4 rfl) (A2.con1 (B5 5 rfl) (A2.con1 (B5 6 rfl) (A2.con1 (B5 7 rfl) (A2.con1 (B5 8 rfl) (A2.dropT 9 rfl))))))))
 have h3p:¬ ((t14:Int)<(l1.length:Int)):=by simpa using h3
 rw [U2 h3p] at hR;replace hR:=(S5.eq_1 ..).symm.trans hR
 subst hR
 refine G2 ?_
 exact A5h rfl ⟨hr,hD⟩ (by simp [hD]) (B0s rfl) (L':=Lt1) (Φ':=Ft1) (by exact .inl hILt1) (mcT [[bx c0b (A6 c0 ⟨c0Mainq,c0Main.length,c0Maink⟩ ⟨c0Altq,c0Alt.length,c0Altk⟩ ⟨none,0,0⟩ ⟨c0Tabsq,c0Tabs.length,c0Tabsk⟩) 52],Lt1] 1 rfl rfl) (A2.dropT 7 rfl)
def V0 (s:ScrC):List (List Cel)→List (List Cel)→(FrmC×List (List Cel))
 | [],fR=>((⟨s.cols,(⟨s.cursor.row,s.cursor.col⟩:Plc),s.modes.visible,s.shape,s.title⟩:FrmC),fR)
 | el::rest,fR=>V0 s rest (fR++([el]:List (List Cel)))
def A3m (s:ScrC) (sMain:List (Rwc Cel)) (sAlt:List (Rwc Cel)) (sTabs:List Bool):FrmC×List (List Cel) :=
 V0 s (A1j s sMain sAlt sTabs) ([]:List (List Cel))
theorem B3k (s:ScrC) (sMain:List (Rwc Cel)) (sAlt:List (Rwc Cel)) (sTabs:List Bool) (sMainq:Option Addr) (sMainrs:List Rwq) (sMaink:Nat) (sAltq:Option Addr) (sAltrs:List Rwq) (sAltk:Nat) (sTabsq:Option Addr) (sTabsk:Nat) (hrowssMainrs:D0 sMainrs sMain) (hlsMain:sMain.length≤9223372036854775807) (hcsMain:sMain.length≤sMaink) (hrowssAltrs:D0 sAltrs sAlt) (hlsAlt:sAlt.length≤9223372036854775807) (hcsAlt:sAlt.length≤sAltk) (hlsTabs:sTabs.length≤9223372036854775807) (hcsTabs:sTabs.length≤sTabsk) (hM:sMain.length≤100) (hA:sAlt.length≤100) (R:FrmC×List (List Cel)) (hR:A3m s sMain sAlt sTabs=R):Con Tryz.prog 40 [ag (A6 s ⟨sMainq,sMain.length,sMaink⟩ ⟨sAltq,sAlt.length,sAltk⟩ ⟨none,0,0⟩ ⟨sTabsq,sTabs.length,sTabsk⟩)] [] [sl B7 sMainq sMainrs,B8 B2 sMainrs sMain,sl B7 sAltq sAltrs,B8 B2 sAltrs sAlt,sl F4 sTabsq sTabs] ({t:VR×List Slc // VOk 1 R.2.length t.1∧C7 t.2 R.2}) (fun x=>ag (A0 R.1 ⟨va x.1.1.q,R.2.length,x.1.1.k⟩)) (fun x=>((vo C4 69 x.1.1 x.1.2)++([]))) (fun x=>[G5 B2 x.1.2 R.2]):=by
 refine zco Tryz.func40 [(0,ag (A6 s ⟨sMainq,sMain.length,sMaink⟩ ⟨sAltq,sAlt.length,sAltk⟩ ⟨none,0,0⟩ ⟨sTabsq,sTabs.length,sTabsk⟩))] fun X hX hr hD=>?_
 replace hR:=(A3m.eq_1 ..).symm.trans hR
 have:=hrowssMainrs.1
 have:=hrowssAltrs.1
 refine sr 2 rfl (A8y 2 0 [] (fun b1 b2=>[(1,pt b1 0),(2,pt b2 0)]) (fun b1 b2=>[bx b2 (A0 FrmC.zero ⟨none,0,0⟩) 26,bx b1 (A6 s ⟨sMainq,sMain.length,sMaink⟩ ⟨sAltq,sAlt.length,sAltk⟩ ⟨none,0,0⟩ ⟨sTabsq,sTabs.length,sTabsk⟩) 52]) (fun b1 b2=>?_))
 refine ie (sr 19 rfl (I7 19 0 [1,1,1,1,1,1,0] (fun b3=>[(3,pt b3 0)]) (fun b3=>[bx b3 (A0 (⟨s.cols,(⟨s.cursor.row,s.cursor.col⟩:Plc),s.modes.visible,s.shape,s.title⟩:FrmC) ⟨none,0,0⟩) 26,bx b2 (A0 FrmC.zero ⟨none,0,0⟩) 26,bx b1 (A6 s ⟨sMainq,sMain.length,sMaink⟩ ⟨sAltq,sAlt.length,sAltk⟩ ⟨none,0,0⟩ ⟨sTabsq,sTabs.length,sTabsk⟩) 52]) (fun b3=>?_)))
 refine ie (A3 (sr 2 rfl (zrl 1 1 [2] [(22,ag (A6 s ⟨sMainq,sMain.length,sMaink⟩ ⟨sAltq,sAlt.length,sAltk⟩ ⟨none,0,0⟩ ⟨sTabsq,sTabs.length,sTabsk⟩))] ?_)))
 refine it rfl (H2 (L2:=[bx b3 (A0 (⟨s.cols,(⟨s.cursor.row,s.cursor.col⟩:Plc),s.modes.visible,s.shape,s.title⟩:FrmC) ⟨none,0,0⟩) 26,bx b2 (A0 FrmC.zero ⟨none,0,0⟩) 26,bx b1 (A6 s ⟨sMainq,sMain.length,sMaink⟩ ⟨sAltq,sAlt.length,sAltk⟩ ⟨none,0,0⟩ ⟨sTabsq,sTabs.length,sTabsk⟩) 52]) (B9w s sMain sAlt sTabs sMainq sMainrs sMaink sAltq sAltrs sAltk sTabsq sTabsk hrowssMainrs (by first|omega|(simp only [List.length_take,List.length_drop,List.length_append,List.length_cons,List.length_nil,List.length_set,List.length_map,G8];omega)|decide) (by first|omega|(simp only [List.length_take,List.length_drop,List.length_append,List.length_cons,List.length_nil,List.length_set,List.length_map,G8];omega)|decide) hrowssAltrs (by first|omega|(simp only [List.length_take,List.length_drop,List.length_append,List.length_cons,List.length_nil,List.length_set,List.length_map,G8];omega)|decide) (by first|omega|(simp only [List.length_take,List.length_drop,List.length_append,List.length_cons,List.length_nil,List.length_set,List.length_map,G8];omega)|decide) (by first|omega|(simp only [List.length_take,List.length_drop,List.length_append,List.length_cons,List.length_nil,List.length_set,List.length_map,G8];omega)|decide) (by first|omega|(simp only [List.length_take,List.length_drop,List.length_append,List.length_cons,List.length_nil,List.length_set,List.length_map,G8];omega)|decide) _ rfl) rfl rfl rfl rfl rfl A2.refl (List.Perm.refl _) (fun b4=>[bx b4 (A6 s ⟨sMainq,sMain.length,sMaink⟩ ⟨sAltq,sAlt.length,sAltk⟩ ⟨none,0,0⟩ ⟨sTabsq,sTabs.length,sTabsk⟩) 52,bx b3 (A0 (⟨s.cols,(⟨s.cursor.row,s.cursor.col⟩:Plc),s.modes.visible,s.shape,s.title⟩:FrmC) ⟨none,0,0⟩) 26,bx b2 (A0 FrmC.zero ⟨none,0,0⟩) 26,bx b1 (A6 s ⟨sMainq,sMain.length,sMaink⟩ ⟨sAltq,sAlt.length,sAltk⟩ ⟨none,0,0⟩ ⟨sTabsq,sTabs.length,sTabsk⟩) 52]) (fun _=>rfl)) fun b4=>?_
 refine ie (B0 (W7 (H3 [vo C4 69 VR.nil ([]:List Slc),[bx b4 (A6 s ⟨sMainq,sMain.length,sMaink⟩ ⟨sAltq,sAlt.length,sAltk⟩ ⟨none,0,0⟩ ⟨sTabsq,sTabs.length,sTabsk⟩) 52],[bx b3 (A0 (⟨s.cols,(⟨s.cursor.row,s.cursor.col⟩:Plc),s.modes.visible,s.shape,s.title⟩:FrmC) ⟨none,0,0⟩) 26],[bx b2 (A0 FrmC.zero ⟨none,0,0⟩) 26],[bx b1 (A6 s ⟨sMainq,sMain.length,sMaink⟩ ⟨sAltq,sAlt.length,sAltk⟩ ⟨none,0,0⟩ ⟨sTabsq,sTabs.length,sTabsk⟩) 52]] [2,3,4,0,1] 5 rfl (by decide) rfl [[bx b3 (A0 (⟨s.cols,(⟨s.cursor.row,s.cursor.col⟩:Plc),s.modes.visible,s.shape,s.title⟩:FrmC) ⟨none,0,0⟩) 26],[bx b2 (A0 FrmC.zero ⟨none,0,0⟩) 26],[bx b1 (A6 s ⟨sMainq,sMain.length,sMaink⟩ ⟨sAltq,sAlt.length,sAltk⟩ ⟨none,0,0⟩ ⟨sTabsq,sTabs.length,sTabsk⟩) 52],vo C4 69 VR.nil ([]:List Slc),[bx b4 (A6 s ⟨sMainq,sMain.length,sMaink⟩ ⟨sAltq,sAlt.length,sAltk⟩ ⟨none,0,0⟩ ⟨sTabsq,sTabs.length,sTabsk⟩) 52]] rfl (by first|rfl|simp)) ?_))
 refine C9k [(2,pt b2 0),(3,pt b3 0),(23,.func (.func 133) #[] #[pt b4 0])] ⟨rfl,rfl,rfl,trivial⟩ ?_
 refine C3t (cc:=B2) (xs:=(A1j s sMain sAlt sTabs)) (σ:=List (List Cel)×VR×List Slc) hr rfl (B7c s sMain sAlt sTabs b4 sMainq sMainrs sMaink sAltq sAltrs sAltk sTabsq sTabsk hrowssMainrs (by first|omega|(simp only [List.length_take,List.length_drop,List.length_append,List.length_cons,List.length_nil,List.length_set,List.length_map,G8];omega)|decide) (by first|omega|(simp only [List.length_take,List.length_drop,List.length_append,List.length_cons,List.length_nil,List.length_set,List.length_map,G8];omega)|decide) hrowssAltrs (by first|omega|(simp only [List.length_take,List.length_drop,List.length_append,List.length_cons,List.length_nil,List.length_set,List.length_map,G8];omega)|decide) (by first|omega|(simp only [List.length_take,List.length_drop,List.length_append,List.length_cons,List.length_nil,List.length_set,List.length_map,G8];omega)|decide) (by first|omega|(simp only [List.length_take,List.length_drop,List.length_append,List.length_cons,List.length_nil,List.length_set,List.length_map,G8];omega)|decide) (by first|omega|(simp only [List.length_take,List.length_drop,List.length_append,List.length_cons,List.length_nil,List.length_set,List.length_map,G8];omega)|decide) _ rfl) A2.refl rfl rfl (fun rem x=>V0 s rem x.1=R∧VOk 1 x.1.length x.2.1∧C7 x.2.2 x.1∧x.1.length+rem.length≤100) (fun _ _=>False) (fun x=>(bx b3 (A0 (⟨s.cols,(⟨s.cursor.row,s.cursor.col⟩:Plc),s.modes.visible,s.shape,s.title⟩:FrmC) ⟨va x.2.1.q,x.1.length,x.2.1.k⟩) 26::bx b2 (A0 FrmC.zero ⟨none,0,0⟩) 26::bx b1 (A6 s ⟨sMainq,sMain.length,sMaink⟩ ⟨sAltq,sAlt.length,sAltk⟩ ⟨none,0,0⟩ ⟨sTabsq,sTabs.length,sTabsk⟩) 52::(vo C4 69 x.2.1 x.2.2)++([]))) (fun x=>[sl B7 sMainq sMainrs,B8 B2 sMainrs sMain,sl B7 sAltq sAltrs,B8 B2 sAltrs sAlt,sl F4 sTabsq sTabs,G5 B2 x.2.2 x.1]) (([]:List (List Cel)),VR.nil,([]:List Slc)) (by exact ⟨hR,VOk.nil,C7.none,(by first|(unfold A1j;rw [List.length_nil,Nat.zero_add,Bool.cond_eq_ite];split<;>rw [A5c]<;>omega)|(unfold Y5;rw [List.length_nil,Nat.zero_add,Bool.cond_eq_ite];split<;>rw [A4e]<;>omega))⟩) (mc [[bx b3 (A0 (⟨s.cols,(⟨s.cursor.row,s.cursor.col⟩:Plc),s.modes.visible,s.shape,s.title⟩:FrmC) ⟨none,0,0⟩) 26],[bx b2 (A0 FrmC.zero ⟨none,0,0⟩) 26],[bx b1 (A6 s ⟨sMainq,sMain.length,sMaink⟩ ⟨sAltq,sAlt.length,sAltk⟩ ⟨none,0,0⟩ ⟨sTabsq,sTabs.length,sTabsk⟩) 52],vo C4 69 VR.nil ([]:List Slc),[bx b4 (A6 s ⟨sMainq,sMain.length,sMaink⟩ ⟨sAltq,sAlt.length,sAltk⟩ ⟨none,0,0⟩ ⟨sTabsq,sTabs.length,sTabsk⟩) 52]] [true,true,true,true,true] rfl (by first|rfl|(simp only [List.length_set]<;>rfl))) (A2.con1 (B5 0 rfl) (A2.con1 (B5 1 rfl) (A2.con1 (B5 2 rfl) (A2.con1 (B5 3 rfl) (A2.con1 (B5 4 rfl) (A2.con1 P0 fn0)))))) ?_ ?_ (fun _ _ _ _ h=>h.elim)
 ·rintro el rest ⟨fR,fRowsr,fZ⟩ qel kel hc6 hl7 hI Y Y' K' hY' hK
  try dsimp only at hI
  obtain ⟨hR,hokfRowsr,hrowsfRowsrs,hbf⟩:=hI
  replace hR:=(V0.eq_2 ..).symm.trans hR
  have:=VOk.le hokfRowsr
  refine A5 1 rfl (ip' 1 0 [(4,.slice qel el.length kel)] ?_)
  refine A1 (hK _ _ _ ?_)
  refine B0 (A5 7 rfl (zrl 3 4 [0] [(26,.slice (va fRowsr.q) fR.length fRowsr.k),(27,.slice qel el.length kel)] ?_))
  refine it rfl (E9 (c:=C4) (xs:=([⟨qel,el.length,kel⟩]:List Slc)) A0k rfl rfl rfl (by kernel_rfl)) fun b8=>?_
  have hrows9:C7 ([⟨qel,el.length,kel⟩]:List Slc) ([el]:List (List Cel)):=(C7.cons ⟨rfl,(by first|omega|(simp only [List.length_take,List.length_drop,List.length_append,List.length_cons,List.length_nil,List.length_set,List.length_map,G8];omega)|decide),(by first|omega|(simp only [List.length_take,List.length_drop,List.length_append,List.length_cons,List.length_nil,List.length_set,List.length_map,G8];omega)|decide)⟩ C7.none)
  refine H6 (q:=G5 B2 ([⟨qel,el.length,kel⟩]:List Slc) ([el]:List (List Cel))) (A2j (B5 1 rfl) P0) ?_
  have:([⟨qel,el.length,kel⟩]:List Slc).length=1:=rfl
  have hw12:C7 (fZ++([⟨qel,el.length,kel⟩]:List Slc)) (fR++([el]:List (List Cel))):=C7.append hrowsfRowsrs hrows9
  refine it rfl (A8q (r:=fRowsr) (rs:=fZ) (xss:=fR) (pre:=[bx b3 (A0 (⟨s.cols,(⟨s.cursor.row,s.cursor.col⟩:Plc),s.modes.visible,s.shape,s.title⟩:FrmC) ⟨va fRowsr.q,fR.length,fRowsr.k⟩) 26,bx b2 (A0 FrmC.zero ⟨none,0,0⟩) 26,bx b1 (A6 s ⟨sMainq,sMain.length,sMaink⟩ ⟨sAltq,sAlt.length,sAltk⟩ ⟨none,0,0⟩ ⟨sTabsq,sTabs.length,sTabsk⟩) 52]) (post:=[]) C2j rfl rfl rfl rfl rfl rfl rfl rfl rfl (B5 1 rfl) (B5 8 rfl) (B5 0 rfl) hrowsfRowsrs hrows9 hokfRowsr (by first|omega|(simp only [List.length_cons,List.length_nil,List.length_append,List.length_take,List.length_drop,G8];omega)) (by first|omega|(simp only [List.length_cons,List.length_nil,List.length_append,List.length_take,List.length_drop,G8];omega))) fun ⟨r10,hr11⟩=>?_
  have:=VOk.le hr11
  have:=VOk.cap hr11
  have:([el]:List (List Cel)).length=1:=rfl
  have:(fR++([el]:List (List Cel))).length=fR.length+1:=List.length_append
  refine zrg 2 0 [0] [] (bx b3 (A0 (⟨s.cols,(⟨s.cursor.row,s.cursor.col⟩:Plc),s.modes.visible,s.shape,s.title⟩:FrmC) ⟨va r10.q,(fR++([el]:List (List Cel))).length,r10.k⟩) 26::bx b2 (A0 FrmC.zero ⟨none,0,0⟩) 26::bx b1 (A6 s ⟨sMainq,sMain.length,sMaink⟩ ⟨sAltq,sAlt.length,sAltk⟩ ⟨none,0,0⟩ ⟨sTabsq,sTabs.length,sTabsk⟩) 52::(vo C4 69 r10 (fZ++([⟨qel,el.length,kel⟩]:List Slc)))++([])) ?_
  refine A1 ?_
  refine B3y (I:=fun rem x=>V0 s rem x.1=R∧VOk 1 x.1.length x.2.1∧C7 x.2.2 x.1∧x.1.length+rem.length≤100) (Jx:=fun _ _=>False) (Lk:=fun x=>(bx b3 (A0 (⟨s.cols,(⟨s.cursor.row,s.cursor.col⟩:Plc),s.modes.visible,s.shape,s.title⟩:FrmC) ⟨va x.2.1.q,x.1.length,x.2.1.k⟩) 26::bx b2 (A0 FrmC.zero ⟨none,0,0⟩) 26::bx b1 (A6 s ⟨sMainq,sMain.length,sMaink⟩ ⟨sAltq,sAlt.length,sAltk⟩ ⟨none,0,0⟩ ⟨sTabsq,sTabs.length,sTabsk⟩) 52::(vo C4 69 x.2.1 x.2.2)++([]))) (Φk:=fun x=>[sl B7 sMainq sMainrs,B8 B2 sMainrs sMain,sl B7 sAltq sAltrs,B8 B2 sAltrs sAlt,sl F4 sTabsq sTabs,G5 B2 x.2.2 x.1]) (rest:=rest) ((fR++([el]:List (List Cel))),r10,(fZ++([⟨qel,el.length,kel⟩]:List Slc))) (by exact ⟨hR,hr11,hw12,(by simp only [List.length_cons,List.length_append,List.length_nil] at *;omega)⟩) (mc [[bx b3 (A0 (⟨s.cols,(⟨s.cursor.row,s.cursor.col⟩:Plc),s.modes.visible,s.shape,s.title⟩:FrmC) ⟨va r10.q,(fR++([el]:List (List Cel))).length,r10.k⟩) 26],[bx b2 (A0 FrmC.zero ⟨none,0,0⟩) 26],[bx b1 (A6 s ⟨sMainq,sMain.length,sMaink⟩ ⟨sAltq,sAlt.length,sAltk⟩ ⟨none,0,0⟩ ⟨sTabsq,sTabs.length,sTabsk⟩) 52],vo C4 69 r10 (fZ++([⟨qel,el.length,kel⟩]:List Slc))] [true,true,true,true] rfl (by first|rfl|(simp only [List.length_set]<;>rfl))) ?_
  exact (A2.pick [4,5,6,7,8,0] rfl)
 ·rintro d13 ⟨fR,fRowsr,fZ⟩ hd13 hI
  try dsimp only at hI
  obtain ⟨hR,hokfRowsr,hrowsfRowsrs,hbf⟩:=hI
  replace hR:=(V0.eq_1 ..).symm.trans hR
  have:=VOk.le hokfRowsr
  refine nx (sr 2 rfl (zrg 2 0 [0,1] [] (bx b3 (A0 (⟨s.cols,(⟨s.cursor.row,s.cursor.col⟩:Plc),s.modes.visible,s.shape,s.title⟩:FrmC) ⟨va fRowsr.q,fR.length,fRowsr.k⟩) 26::bx b2 (A0 (⟨s.cols,(⟨s.cursor.row,s.cursor.col⟩:Plc),s.modes.visible,s.shape,s.title⟩:FrmC) ⟨va fRowsr.q,fR.length,fRowsr.k⟩) 26::bx b1 (A6 s ⟨sMainq,sMain.length,sMaink⟩ ⟨sAltq,sAlt.length,sAltk⟩ ⟨none,0,0⟩ ⟨sTabsq,sTabs.length,sTabsk⟩) 52::(vo C4 69 fRowsr fZ)++([])) ?_))
  subst hR
  refine ie (A7 ?_)
  exact B2u rfl ⟨hr,hD⟩ (by exact (A0o.cons (show A0o X.D by rw [hD];exact A0o.nil) hd13)) (P3 rfl (I1 (us:=A0 (⟨s.cols,(⟨s.cursor.row,s.cursor.col⟩:Plc),s.modes.visible,s.shape,s.title⟩:FrmC) ⟨va fRowsr.q,fR.length,fRowsr.k⟩) A7f rfl 1 rfl rfl rfl)) ⟨(fRowsr,fZ),⟨hokfRowsr,hrowsfRowsrs⟩⟩ (by rfl) (mc [[bx b3 (A0 (⟨s.cols,(⟨s.cursor.row,s.cursor.col⟩:Plc),s.modes.visible,s.shape,s.title⟩:FrmC) ⟨va fRowsr.q,fR.length,fRowsr.k⟩) 26],[bx b2 (A0 (⟨s.cols,(⟨s.cursor.row,s.cursor.col⟩:Plc),s.modes.visible,s.shape,s.title⟩:FrmC) ⟨va fRowsr.q,fR.length,fRowsr.k⟩) 26],[bx b1 (A6 s ⟨sMainq,sMain.length,sMaink⟩ ⟨sAltq,sAlt.length,sAltk⟩ ⟨none,0,0⟩ ⟨sTabsq,sTabs.length,sTabsk⟩) 52],vo C4 69 fRowsr fZ] [false,false,false,true] rfl (by first|rfl|(simp only [List.length_set]<;>rfl))) (A2.con1 (B5 5 rfl) fn0)
def A2f (cols:Int) (rows:Int):FrmC×List (List Cel)×Int :=
 (F1 (A0e cols rows) fun (y0:ScrC×List (Rwc Cel)×List (Rwc Cel)×List Bool×Int)=>(bif (!decide (y0.2.2.2.2=0)) then (FrmC.zero,([]:List (List Cel)),2) else (F1 (A3m y0.1 y0.2.1 y0.2.2.1 y0.2.2.2.1) fun (y1:FrmC×List (List Cel))=>(y1.1,y1.2,0))))
theorem B0x (s:ScrC):∀ (l f:List (List Cel)),(V0 s l f).1.title=s.title
 | [],f=>rfl
 | a::l,f=>by simp only [V0];exact B0x s l _
theorem A6m (c r:Int):(A2f c r).1.title.length=0:=by
 unfold A2f F1
 simp only [Bool.cond_eq_ite]
 split
 ·rfl
 ·show (A3m _ _ _ _).1.title.length=0
  unfold A3m;rw [B0x];exact A3o c r
theorem B1d (cols:Int) (rows:Int) (R:FrmC×List (List Cel)×Int) (hR:A2f cols rows=R):Con Tryz.prog 17 [iv cols,iv rows] [] [] ({t:VR×List Slc // VOk 1 R.2.1.length t.1∧C7 t.2 R.2.1}) (fun x=>.tuple #[ag (A0 R.1 ⟨va x.1.1.q,R.2.1.length,x.1.1.k⟩),iv R.2.2]) (fun x=>((vo C4 69 x.1.1 x.1.2)++([]))) (fun x=>[G5 B2 x.1.2 R.2.1]):=by
 refine zco Tryz.func17 [(0,iv cols),(1,iv rows)] fun X hX hr hD=>?_
 replace hR:=(A2f.eq_1 ..).symm.trans hR
 refine sr 2 rfl (I7 2 0 [] (fun b1=>[(4,pt b1 0)]) (fun b1=>[bx b1 (A0 FrmC.zero ⟨none,0,0⟩) 26]) (fun b1=>?_))
 refine ie (sr 9 rfl (ip' 2 7 [(9,iv cols),(10,iv rows)] ?_))
 have hQ:=G6 hR;clear hR;obtain ⟨y0,hy0,hR⟩:=hQ
 refine it rfl (I5 (L2:=[bx b1 (A0 FrmC.zero ⟨none,0,0⟩) 26]) (B3g cols rows y0 hy0) rfl rfl rfl rfl rfl fn0 (List.Perm.refl _) (fun ⟨⟨⟨r2,rs3⟩,hp6⟩,⟨⟨r7,rs8⟩,hp11⟩,⟨r12,hk13⟩⟩=>(bx b1 (A0 FrmC.zero ⟨none,0,0⟩) 26::(vo B7 78 r2 rs3)++((vo B7 78 r7 rs8)++((vo F4 4 r12 y0.2.2.2.1)++([]))))) (fun ⟨⟨⟨r2,rs3⟩,hp6⟩,⟨⟨r7,rs8⟩,hp11⟩,⟨r12,hk13⟩⟩=>H3 [vo B7 78 r2 rs3,vo B7 78 r7 rs8,vo F4 4 r12 y0.2.2.2.1,[bx b1 (A0 FrmC.zero ⟨none,0,0⟩) 26]] [3,0,1,2] 4 rfl (by decide) (by first|rfl|simp only [List.flatten_cons,List.flatten_nil,List.append_nil,List.cons_append,List.nil_append,List.append_assoc]) [[bx b1 (A0 FrmC.zero ⟨none,0,0⟩) 26],vo B7 78 r2 rs3,vo B7 78 r7 rs8,vo F4 4 r12 y0.2.2.2.1] rfl (by first|rfl|simp only [List.flatten_cons,List.flatten_nil,List.append_nil,List.cons_append,List.nil_append,List.append_assoc]))) fun ⟨⟨⟨r2,rs3⟩,hp6⟩,⟨⟨r7,rs8⟩,hp11⟩,⟨r12,hk13⟩⟩=>?_
 try dsimp only at hp6
 obtain ⟨hk4,hw5⟩:=hp6
 try dsimp only at hp11
 obtain ⟨hk9,hw10⟩:=hp11
 have:=VOk.le hk4
 have:=VOk.le hk9
 have:=VOk.le hk13
 have:=VOk.cap hk4
 have:=VOk.cap hk9
 have:=VOk.cap hk13
 have:=hw5.1
 have:=hw10.1
 have ht_rscreenNew:=A3o cols rows;rw [hy0] at ht_rscreenNew;have hl_rscreenNew:=A9f cols rows;rw [hy0] at hl_rscreenNew
 refine I7 6 0 [0] (fun b14=>[(6,pt b14 0),(7,iv y0.2.2.2.2)]) (fun b14=>(bx b14 (A6 y0.1 ⟨va r2.q,y0.2.1.length,r2.k⟩ ⟨va r7.q,y0.2.2.1.length,r7.k⟩ ⟨none,0,0⟩ ⟨va r12.q,y0.2.2.2.1.length,r12.k⟩) 52::bx b1 (A0 FrmC.zero ⟨none,0,0⟩) 26::(vo B7 78 r2 rs3)++((vo B7 78 r7 rs8)++((vo F4 4 r12 y0.2.2.2.1)++([]))))) (fun b14=>?_)
 refine ie (A3 (sr 2 rfl (ip' 2 0 [(15,bv (!decide (y0.2.2.2.2=0)))] ?_)))
 refine ie ?_
 refine zjn rfl hR ?_ ?_<;>clear hR<;>intro hR h15 h15p
 ·refine sr 3 rfl (zrg 3 0 [1] [(5,iv 2)] (bx b14 (A6 y0.1 ⟨va r2.q,y0.2.1.length,r2.k⟩ ⟨va r7.q,y0.2.2.1.length,r7.k⟩ ⟨none,0,0⟩ ⟨va r12.q,y0.2.2.2.1.length,r12.k⟩) 52::bx b1 (A0 FrmC.zero ⟨none,0,0⟩) 26::(vo B7 78 r2 rs3)++((vo B7 78 r7 rs8)++((vo F4 4 r12 y0.2.2.2.1)++([])))) ?_)
  subst hR
  refine ie (A7 ?_)
  exact zer hr hD (V5 rfl (I1 (us:=A0 FrmC.zero ⟨none,0,0⟩) A7f rfl 1 rfl rfl rfl) (B1 rfl)) ⟨(VR.nil,([]:List Slc)),⟨VOk.nil,C7.none⟩⟩ (mc [[bx b14 (A6 y0.1 ⟨va r2.q,y0.2.1.length,r2.k⟩ ⟨va r7.q,y0.2.2.1.length,r7.k⟩ ⟨none,0,0⟩ ⟨va r12.q,y0.2.2.2.1.length,r12.k⟩) 52],[bx b1 (A0 FrmC.zero ⟨none,0,0⟩) 26],vo B7 78 r2 rs3,vo B7 78 r7 rs8,vo F4 4 r12 y0.2.2.2.1,vo C4 69 VR.nil ([]:List Slc)] [false,false,false,false,false,true] rfl (by first|rfl|(simp only [List.length_set]<;>rfl))) (A2.con1 P0 fn0)
 refine A4 (nx (sr 4 rfl (zrl 1 3 [0] [(17,ag (A6 y0.1 ⟨va r2.q,y0.2.1.length,r2.k⟩ ⟨va r7.q,y0.2.2.1.length,r7.k⟩ ⟨none,0,0⟩ ⟨va r12.q,y0.2.2.2.1.length,r12.k⟩))] ?_)))
 have:=VOk.cap hk4
 have:=VOk.le hk4
 refine S1 [bx b14 (A6 y0.1 ⟨va r2.q,y0.2.1.length,r2.k⟩ ⟨va r7.q,y0.2.2.1.length,r7.k⟩ ⟨none,0,0⟩ ⟨va r12.q,y0.2.2.2.1.length,r12.k⟩) 52,bx b1 (A0 FrmC.zero ⟨none,0,0⟩) 26] ((vo B7 78 r7 rs8)++((vo F4 4 r12 y0.2.2.2.1)++([]))) (T:=78) (c:=B7) (r:=r2) (xs:=rs3) (VOk.cast hk4 (by rw [hw5.1])) (by first|rfl|simp only [List.cons_append,List.append_assoc,List.nil_append,List.append_nil]) ?_
 have:=VOk.cap hk9
 have:=VOk.le hk9
 refine S1 [bx b14 (A6 y0.1 ⟨va r2.q,y0.2.1.length,r2.k⟩ ⟨va r7.q,y0.2.2.1.length,r7.k⟩ ⟨none,0,0⟩ ⟨va r12.q,y0.2.2.2.1.length,r12.k⟩) 52,bx b1 (A0 FrmC.zero ⟨none,0,0⟩) 26] ((vo F4 4 r12 y0.2.2.2.1)++([])) (T:=78) (c:=B7) (r:=r7) (xs:=rs8) (VOk.cast hk9 (by rw [hw10.1])) (by first|rfl|simp only [List.cons_append,List.append_assoc,List.nil_append,List.append_nil]) ?_
 have:=VOk.cap hk13
 have:=VOk.le hk13
 refine S1 [bx b14 (A6 y0.1 ⟨va r2.q,y0.2.1.length,r2.k⟩ ⟨va r7.q,y0.2.2.1.length,r7.k⟩ ⟨none,0,0⟩ ⟨va r12.q,y0.2.2.2.1.length,r12.k⟩) 52,bx b1 (A0 FrmC.zero ⟨none,0,0⟩) 26] [] (T:=4) (c:=F4) (r:=r12) (xs:=y0.2.2.2.1) hk13 (by first|rfl|simp only [List.cons_append,List.append_assoc,List.nil_append,List.append_nil]) ?_
 have hQ:=G6 hR;clear hR;obtain ⟨y1,hy1,hR⟩:=hQ
 refine it rfl (I5 (L2:=[bx b14 (A6 y0.1 ⟨va r2.q,y0.2.1.length,r2.k⟩ ⟨va r7.q,y0.2.2.1.length,r7.k⟩ ⟨none,0,0⟩ ⟨va r12.q,y0.2.2.2.1.length,r12.k⟩) 52,bx b1 (A0 FrmC.zero ⟨none,0,0⟩) 26]) (B3k y0.1 y0.2.1 y0.2.2.1 y0.2.2.2.1 (va r2.q) rs3 r2.k (va r7.q) rs8 r7.k (va r12.q) r12.k hw5 (by first|omega|(simp only [List.length_take,List.length_drop,List.length_append,List.length_cons,List.length_nil,List.length_set,List.length_map,G8];omega)|decide) (by first|omega|(simp only [List.length_take,List.length_drop,List.length_append,List.length_cons,List.length_nil,List.length_set,List.length_map,G8];omega)|decide) hw10 (by first|omega|(simp only [List.length_take,List.length_drop,List.length_append,List.length_cons,List.length_nil,List.length_set,List.length_map,G8];omega)|decide) (by first|omega|(simp only [List.length_take,List.length_drop,List.length_append,List.length_cons,List.length_nil,List.length_set,List.length_map,G8];omega)|decide) (by first|omega|(simp only [List.length_take,List.length_drop,List.length_append,List.length_cons,List.length_nil,List.length_set,List.length_map,G8];omega)|decide) (by first|omega|(simp only [List.length_take,List.length_drop,List.length_append,List.length_cons,List.length_nil,List.length_set,List.length_map,G8];omega)|decide) (by first|omega|(simp only [List.length_nil];omega)) (by first|omega|(simp only [List.length_nil];omega)) y1 hy1) rfl rfl rfl rfl rfl (A2.pick [2,3,1,4,0] rfl) (List.Perm.refl _) (fun ⟨⟨r16,rs17⟩,hp20⟩=>(bx b14 (A6 y0.1 ⟨va r2.q,y0.2.1.length,r2.k⟩ ⟨va r7.q,y0.2.2.1.length,r7.k⟩ ⟨none,0,0⟩ ⟨va r12.q,y0.2.2.2.1.length,r12.k⟩) 52::bx b1 (A0 FrmC.zero ⟨none,0,0⟩) 26::(vo C4 69 r16 rs17)++([]))) (fun ⟨⟨r16,rs17⟩,hp20⟩=>H3 [vo C4 69 r16 rs17,[bx b14 (A6 y0.1 ⟨va r2.q,y0.2.1.length,r2.k⟩ ⟨va r7.q,y0.2.2.1.length,r7.k⟩ ⟨none,0,0⟩ ⟨va r12.q,y0.2.2.2.1.length,r12.k⟩) 52],[bx b1 (A0 FrmC.zero ⟨none,0,0⟩) 26]] [1,2,0] 3 rfl (by decide) (by first|rfl|simp only [List.flatten_cons,List.flatten_nil,List.append_nil,List.cons_append,List.nil_append,List.append_assoc]) [[bx b14 (A6 y0.1 ⟨va r2.q,y0.2.1.length,r2.k⟩ ⟨va r7.q,y0.2.2.1.length,r7.k⟩ ⟨none,0,0⟩ ⟨va r12.q,y0.2.2.2.1.length,r12.k⟩) 52],[bx b1 (A0 FrmC.zero ⟨none,0,0⟩) 26],vo C4 69 r16 rs17] rfl (by first|rfl|simp only [List.flatten_cons,List.flatten_nil,List.append_nil,List.cons_append,List.nil_append,List.append_assoc]))) fun ⟨⟨r16,rs17⟩,hp20⟩=>?_
 try dsimp only at hp20
 obtain ⟨hk18,hw19⟩:=hp20
 have:=VOk.le hk18
 have:=VOk.cap hk18
 have:=hw19.1
 refine zrg 2 0 [1] [(5,iv 0)] (bx b14 (A6 y0.1 ⟨va r2.q,y0.2.1.length,r2.k⟩ ⟨va r7.q,y0.2.2.1.length,r7.k⟩ ⟨none,0,0⟩ ⟨va r12.q,y0.2.2.2.1.length,r12.k⟩) 52::bx b1 (A0 y1.1 ⟨va r16.q,y1.2.length,r16.k⟩) 26::(vo C4 69 r16 rs17)++([])) ?_
 subst hR
 refine ie (A7 ?_)
 exact zer hr hD (V5 rfl (I1 (us:=A0 y1.1 ⟨va r16.q,y1.2.length,r16.k⟩) A7f rfl 1 rfl rfl rfl) (B1 rfl)) ⟨(r16,rs17),⟨hk18,hw19⟩⟩ (mc [[bx b14 (A6 y0.1 ⟨va r2.q,y0.2.1.length,r2.k⟩ ⟨va r7.q,y0.2.2.1.length,r7.k⟩ ⟨none,0,0⟩ ⟨va r12.q,y0.2.2.2.1.length,r12.k⟩) 52],[bx b1 (A0 y1.1 ⟨va r16.q,y1.2.length,r16.k⟩) 26],vo C4 69 r16 rs17] [false,false,true] rfl (by first|rfl|(simp only [List.length_set]<;>rfl))) (A2.con1 (B5 0 rfl) fn0)
end Go.Proofs.YthcjfkljekdioaaGreatDoor
set_option linter.unusedVariables false
set_option linter.unusedSimpArgs false
set_option linter.unnecessarySimpa false
set_option maxRecDepth 100000
namespace Go.Proofs.YthcjfkljekdioaaGreatDoor
open Go Go.Fen
theorem C9g:Zero Tryz.prog 69 [.slice none 0 0]:=⟨by kernel_rfl⟩
def B4y (rows:List (List Cel)) (c:Int):Prop:=(rows.length:Int)≤40∧c≤80∧∀ k,k<rows.length→((rows.getD k []).length:Int)=c
def C2r (i:Int) (f:FrmC) (rows:List (List Cel)) (r c n m:Int):Prop:=B4y rows f.cols∧0≤i∧i<n∧0≤r∧r+n≤rows.length∧0≤c∧2≤m∧c+m≤f.cols
def C8h (i:Int) (p:Plc) (g:FrmC) (gr:List (List Cel)) (f:FrmC) (fr:List (List Cel)):Prop:=B4y fr f.cols∧B4y gr g.cols∧0≤i∧i<fr.length∧0≤p.row∧p.row+gr.length≤fr.length∧0≤p.col∧p.col+g.cols≤f.cols∧0≤g.cols
theorem B4y.of {f:FrmC} {r:List (List Cel)} (h:2≤f.cols∧f.cols≤80∧1≤r.length∧r.length≤40∧∀ i,i<r.length→((r.getD i []).length:Int)=f.cols):B4y r f.cols:=⟨by omega,h.2.1,h.2.2.2.2⟩
def A1c (f:FrmC) (fR:List (List Cel)) (rRow:Int) (rCol:Int) (rRows:Int) (rCols:Int):Bool :=
 ((((((((decide ((0:Int)≤rRow))&&(decide ((1:Int)≤rRows)))&&(decide (rRows≤(fR.length:Int))))&&(decide (rRow≤((fR.length:Int) - rRows))))&&(decide ((0:Int)≤rCol)))&&(decide ((2:Int)≤rCols)))&&(decide (rCols≤f.cols)))&&(decide (rCol≤(f.cols - rCols))))
theorem C6f {f:FrmC} {rows:List (List Cel)} {r c n m:Int} (h:A1c f rows r c n m=true):0≤r∧1≤n∧r+n≤rows.length∧0≤c∧2≤m∧c+m≤f.cols:=by
 unfold A1c at h;simp only [Bool.and_eq_true,decide_eq_true_eq] at h;omega
theorem B2g (f:FrmC) (fR:List (List Cel)) (rRow:Int) (rCol:Int) (rRows:Int) (rCols:Int) (fQ:Option Addr) (fZ:List Slc) (fK:Nat) (hrowsfRowsrs:C7 fZ fR) (hlfRows:fR.length≤9223372036854775807) (hcfRows:fR.length≤fK) (hfc:f.cols≤80) (R:Bool) (hR:A1c f fR rRow rCol rRows rCols=R):I6 Tryz.prog 57 [ag (A0 f ⟨fQ,fR.length,fK⟩),ag [iv rRow,iv rCol,iv rRows,iv rCols]] [sl C4 fQ fZ,G5 B2 fZ fR] (bv R):=by
 refine zco Tryz.func57 [(0,ag (A0 f ⟨fQ,fR.length,fK⟩)),(1,ag [iv rRow,iv rCol,iv rRows,iv rCols])] fun X hX hr hD=>?_
 replace hR:=(A1c.eq_1 ..).symm.trans hR
 have:=hrowsfRowsrs.1
 refine sr 3 rfl (A8y 3 0 [] (fun b1 b2=>[(2,pt b1 0),(3,pt b2 0)]) (fun b1 b2=>[bx b2 [iv rRow,iv rCol,iv rRows,iv rCols] 61,bx b1 (A0 f ⟨fQ,fR.length,fK⟩) 26]) (fun b1 b2=>?_))
 refine ie (sr 28 rfl (zrl 4 24 [0] [(9,bv (decide ((0:Int)≤rRow)))] ?_))
 refine zid 4 20 9 13 (decide ((1:Int)≤rRows)) (fun g3 g3p=>?_) ?_
 ·refine zrl 4 0 [0] [(13,bv (decide ((1:Int)≤rRows)))] ?_
  exact zai 2 9 13 g3
 refine ip' 1 19 [(14,bv ((decide ((0:Int)≤rRow))&&(decide ((1:Int)≤rRows))))] ?_
 refine zia 7 12 14 21 (decide (rRows≤(fR.length:Int))) (fun g4=>?_) ?_
 ·have g4p:((0:Int)≤rRow)∧((1:Int)≤rRows):=by simpa using g4
  refine zrl 7 0 [0,1] [(21,bv (decide (rRows≤(fR.length:Int))))] ?_
  exact zai 2 14 21 g4
 refine ip' 1 11 [(22,bv (((decide ((0:Int)≤rRow))&&(decide ((1:Int)≤rRows)))&&(decide (rRows≤(fR.length:Int)))))] ?_
 refine zia 10 1 22 32 (decide (rRow≤((fR.length:Int) - rRows))) (fun g5=>?_) ?_
 ·have g5p:(((0:Int)≤rRow)∧((1:Int)≤rRows))∧(rRows≤(fR.length:Int)):=by simpa using g5
  refine zrl 7 3 [0,1,0] [(24,iv rRow),(27,iv (fR.length:Int)),(29,iv rRows)] ?_
  refine ix rfl (Q0 rfl rfl rfl rfl (by omega)) ?_
  refine ip' 2 0 [(32,bv (decide (rRow≤((fR.length:Int) - rRows))))] ?_
  exact zai 6 22 32 g5
 refine ip' 1 0 [(5,bv ((((decide ((0:Int)≤rRow))&&(decide ((1:Int)≤rRows)))&&(decide (rRows≤(fR.length:Int))))&&(decide (rRow≤((fR.length:Int) - rRows)))))] ?_
 refine ie (sr 29 rfl (ip' 2 27 [(34,bv ((((decide ((0:Int)≤rRow))&&(decide ((1:Int)≤rRows)))&&(decide (rRows≤(fR.length:Int))))&&(decide (rRow≤((fR.length:Int) - rRows)))))] ?_))
 refine zia 4 23 34 38 (decide ((0:Int)≤rCol)) (fun g6=>?_) ?_
 ·have g6p:((((0:Int)≤rRow)∧((1:Int)≤rRows))∧(rRows≤(fR.length:Int)))∧(rRow≤((fR.length:Int) - rRows)):=by simpa using g6
  refine zrl 4 0 [0] [(38,bv (decide ((0:Int)≤rCol)))] ?_
  exact zai 2 34 38 g6
 refine ip' 1 22 [(39,bv (((((decide ((0:Int)≤rRow))&&(decide ((1:Int)≤rRows)))&&(decide (rRows≤(fR.length:Int))))&&(decide (rRow≤((fR.length:Int) - rRows))))&&(decide ((0:Int)≤rCol))))] ?_
 refine zia 4 18 39 43 (decide ((2:Int)≤rCols)) (fun g7=>?_) ?_
 ·have g7p:(((((0:Int)≤rRow)∧((1:Int)≤rRows))∧(rRows≤(fR.length:Int)))∧(rRow≤((fR.length:Int) - rRows)))∧((0:Int)≤rCol):=by simpa using g7
  refine zrl 4 0 [0] [(43,bv (decide ((2:Int)≤rCols)))] ?_
  exact zai 2 39 43 g7
 refine ip' 1 17 [(44,bv ((((((decide ((0:Int)≤rRow))&&(decide ((1:Int)≤rRows)))&&(decide (rRows≤(fR.length:Int))))&&(decide (rRow≤((fR.length:Int) - rRows))))&&(decide ((0:Int)≤rCol)))&&(decide ((2:Int)≤rCols))))] ?_
 refine zia 6 11 44 50 (decide (rCols≤f.cols)) (fun g8=>?_) ?_
 ·have g8p:((((((0:Int)≤rRow)∧((1:Int)≤rRows))∧(rRows≤(fR.length:Int)))∧(rRow≤((fR.length:Int) - rRows)))∧((0:Int)≤rCol))∧((2:Int)≤rCols):=by simpa using g8
  refine zrl 6 0 [0,1] [(50,bv (decide (rCols≤f.cols)))] ?_
  exact zai 2 44 50 g8
 refine ip' 1 10 [(51,bv (((((((decide ((0:Int)≤rRow))&&(decide ((1:Int)≤rRows)))&&(decide (rRows≤(fR.length:Int))))&&(decide (rRow≤((fR.length:Int) - rRows))))&&(decide ((0:Int)≤rCol)))&&(decide ((2:Int)≤rCols)))&&(decide (rCols≤f.cols))))] ?_
 refine zia 9 1 51 60 (decide (rCol≤(f.cols - rCols))) (fun g9=>?_) ?_
 ·have g9p:(((((((0:Int)≤rRow)∧((1:Int)≤rRows))∧(rRows≤(fR.length:Int)))∧(rRow≤((fR.length:Int) - rRows)))∧((0:Int)≤rCol))∧((2:Int)≤rCols))∧(rCols≤f.cols):=by simpa using g9
  refine zrl 6 3 [0,1,0] [(53,iv rCol),(55,iv f.cols),(57,iv rCols)] ?_
  refine ix rfl (Q0 rfl rfl rfl rfl (by omega)) ?_
  refine ip' 2 0 [(60,bv (decide (rCol≤(f.cols - rCols))))] ?_
  exact zai 6 51 60 g9
 refine ip' 1 0 [(4,bv ((((((((decide ((0:Int)≤rRow))&&(decide ((1:Int)≤rRows)))&&(decide (rRows≤(fR.length:Int))))&&(decide (rRow≤((fR.length:Int) - rRows))))&&(decide ((0:Int)≤rCol)))&&(decide ((2:Int)≤rCols)))&&(decide (rCols≤f.cols)))&&(decide (rCol≤(f.cols - rCols)))))] ?_
 subst hR
 refine ie (A7 ?_)
 exact D5 hr hD
def A0f (i:Int) (p1:FrmC) (p1Rows:List (List Cel)) (p2Row:Int) (p2Col:Int) (p2Rows:Int) (p2Cols:Int):List Cel :=
 (((p1Rows.getD ((p2Row).toNat+(i).toNat) []).drop ((p2Col).toNat)).take (((p2Col).toNat+(p2Cols).toNat) - ((p2Col).toNat)))
theorem C7d {i:Int} {f:FrmC} {rows:List (List Cel)} {r c n m:Int} (h:C2r i f rows r c n m):(A0f i f rows r c n m).length≤100:=by
 obtain ⟨⟨h1,h2,h3⟩,h4,h5,h6,h7,h8,h9,h10⟩:=h
 have:=h3 (r+i).toNat (by omega)
 unfold A0f;rw [List.length_take,List.length_drop];omega
theorem B7l (i:Int) (p1:FrmC) (p1Rows:List (List Cel)) (p2Row:Int) (p2Col:Int) (p2Rows:Int) (p2Cols:Int) (p1b:Nat) (p1Rowsq:Option Addr) (p1Rowsrs:List Slc) (p1Rowsk:Nat) (p2b:Nat) (hrowsp1Rowsrs:C7 p1Rowsrs p1Rows) (hlp1Rows:p1Rows.length≤9223372036854775807) (hcp1Rows:p1Rows.length≤p1Rowsk) (hq:C2r i p1 p1Rows p2Row p2Col p2Rows p2Cols) (R:List Cel) (hR:A0f i p1 p1Rows p2Row p2Col p2Rows p2Cols=R):Con Tryz.prog 59 [iv i,pt p1b 0,pt p2b 0] [bx p1b (A0 p1 ⟨p1Rowsq,p1Rows.length,p1Rowsk⟩) 26,bx p2b [iv p2Row,iv p2Col,iv p2Rows,iv p2Cols] 61] [sl C4 p1Rowsq p1Rowsrs,G5 B2 p1Rowsrs p1Rows] ({t:Option Addr×Nat // R.length≤t.2∧R.length≤9223372036854775807}) (fun x=>.slice x.1.1 R.length x.1.2) (fun x=>[bx p1b (A0 p1 ⟨p1Rowsq,p1Rows.length,p1Rowsk⟩) 26,bx p2b [iv p2Row,iv p2Col,iv p2Rows,iv p2Cols] 61]) (fun x=>[sl B2 x.1.1 R]):=by
 refine zco Tryz.func59 [(0,iv i),(1,pt p1b 0),(2,pt p2b 0)] fun X hX hr hD=>?_
 replace hR:=(A0f.eq_1 ..).symm.trans hR
 have:=hrowsp1Rowsrs.1
 obtain ⟨⟨hq1,hq2,hq3⟩,hq4,hq5,hq6,hq7,hq8,hq9,hq10⟩:=hq
 have hqr:=hq3 (p2Row.toNat+i.toNat) (by omega)
 refine sr 1 rfl (ip' 1 0 [] ?_)
 refine ie (sd 22 rfl (by kernel_rfl) rfl ?_)
 refine zdg 5 17 [0,1] [(6,.slice p1Rowsq p1Rows.length p1Rowsk),(8,iv p2Row),(9,iv i)] ?_
 refine dd rfl (B4 rfl rfl rfl rfl (by omega)) ?_
 refine A4a 0 rfl (by have:=hrowsp1Rowsrs.1;omega) fun a1 hq2=>?_
 refine A4g (P9 (k:=((p2Row).toNat+(i).toNat)) (d:=(⟨none,0,0⟩:Slc)) hrowsp1Rowsrs 1 rfl (by have:=hrowsp1Rowsrs.1;omega)) ?_
 have:=P8 hrowsp1Rowsrs (k:=((p2Row).toNat+(i).toNat)) (d:=(⟨none,0,0⟩:Slc)) (by have:=hrowsp1Rowsrs.1;omega)
 refine dd rfl (E8 A0k rfl rfl hq2 rfl ((p2Row).toNat+(i).toNat) (by omega) (by omega)) ?_
 refine dd rfl (F9 (C8 (v:=.slice ((p1Rowsrs.getD ((p2Row).toNat+(i).toNat) (⟨none,0,0⟩:Slc)).q) ((p1Rowsrs.getD ((p2Row).toNat+(i).toNat) (⟨none,0,0⟩:Slc)).n) ((p1Rowsrs.getD ((p2Row).toNat+(i).toNat) (⟨none,0,0⟩:Slc)).k)) (us:=[.slice ((p1Rowsrs.getD ((p2Row).toNat+(i).toNat) (⟨none,0,0⟩:Slc)).q) ((p1Rowsrs.getD ((p2Row).toNat+(i).toNat) (⟨none,0,0⟩:Slc)).n) ((p1Rowsrs.getD ((p2Row).toNat+(i).toNat) (⟨none,0,0⟩:Slc)).k)]) A3e rfl rfl (G0 (c:=C4) (sz:=1) hq2 (fun _=>rfl) 1 rfl (gd (⟨none,0,0⟩:Slc) (by have:=hrowsp1Rowsrs.1;omega))) rfl) (Q7 hrowsp1Rowsrs (by have:=hrowsp1Rowsrs.1;omega))) ?_
 refine zdg 6 8 [1,1,1] [(14,iv p2Col),(16,iv p2Col),(18,iv p2Cols)] ?_
 refine dd rfl (B4 rfl rfl rfl rfl (by omega)) ?_
 refine zdg 4 3 [1,1] [(21,iv p2Col),(23,iv p2Cols)] ?_
 refine dd rfl (B4 rfl rfl rfl rfl (by omega)) ?_
 refine A4g (C9a (c:=B2) (sz:=12) (xs:=(p1Rows.getD ((p2Row).toNat+(i).toNat) [])) (B5 0 rfl) ((p2Col).toNat) ((p2Col).toNat+(p2Cols).toNat) ((p2Col).toNat+(p2Cols).toNat) (fun _=>rfl) rfl (by omega) (by omega)) ?_
 refine dd rfl (A6r (n':=(((p1Rows.getD ((p2Row).toNat+(i).toNat) []).drop ((p2Col).toNat)).take (((p2Col).toNat+(p2Cols).toNat) - ((p2Col).toNat))).length) S9 rfl rfl ((p2Col).toNat) ((p2Col).toNat+(p2Cols).toNat) ((p2Col).toNat+(p2Cols).toNat) (U6 rfl (by omega)) (U6 rfl (by omega)) (U6 rfl (by omega)) (by omega) (by omega) (by omega) (by first|rfl|omega|(simp only [List.length_take,List.length_drop];omega)|(simp;done)) rfl) ?_
 have:=@List.length_drop _ ((p2Col).toNat) (p1Rows.getD ((p2Row).toNat+(i).toNat) [])
 have:=@List.length_take _ (((p2Col).toNat+(p2Cols).toNat) - ((p2Col).toNat)) ((p1Rows.getD ((p2Row).toNat+(i).toNat) []).drop ((p2Col).toNat))
 refine dp' 1 0 [(4,.slice (A6d ((p1Rowsrs.getD ((p2Row).toNat+(i).toNat) (⟨none,0,0⟩:Slc)).q) ((p2Col).toNat) 12 ((p2Col).toNat+(p2Cols).toNat)) ((((p1Rows.getD ((p2Row).toNat+(i).toNat) []).drop ((p2Col).toNat)).take (((p2Col).toNat+(p2Cols).toNat) - ((p2Col).toNat))).length) (((p2Col).toNat+(p2Cols).toNat) - ((p2Col).toNat)))] ?_
 subst hR
 refine de (A7 ?_)
 exact zer hr hD (P3 rfl (B1 rfl)) (zq (A6d ((p1Rowsrs.getD ((p2Row).toNat+(i).toNat) (⟨none,0,0⟩:Slc)).q) ((p2Col).toNat) 12 ((p2Col).toNat+(p2Cols).toNat)) (((p2Col).toNat+(p2Cols).toNat) - ((p2Col).toNat))) (mk [true,true] rfl) (A2.con1 (B5 0 rfl) fn0)
def J5 (ofc:FrmC) (ofcRows:List (List Cel)) (ofcRow:Int) (ofcCol:Int) (ofcRows1:Int) (ofcCols:Int):List (List Cel)→List (List Cel)→Nat→List (List Cel)
 | [],out,t11=>out
 | hd_l0::tl_l0,out,t11=>(F1 (A0f (t11:Int) ofc ofcRows ofcRow ofcCol ofcRows1 ofcCols) fun (y2:List Cel)=>J5 ofc ofcRows ofcRow ofcCol ofcRows1 ofcCols tl_l0 (out.set t11 y2) (t11+1))
def N8 (n:Int) (ofc:FrmC) (ofcRows:List (List Cel)) (ofcRow:Int) (ofcCol:Int) (ofcRows1:Int) (ofcCols:Int):List (List Cel) :=
 J5 ofc ofcRows ofcRow ofcCol ofcRows1 ofcCols (List.replicate ((n).toNat) ([]:List Cel)) (List.replicate ((n).toNat) ([]:List Cel)) 0
theorem A1n (o:FrmC) (oR:List (List Cel)) (a b c d:Int):∀ (tl out:List (List Cel)) (t:Nat),out.length=t+tl.length→J5 o oR a b c d tl out t=out.take t++(List.range' t tl.length).map (fun (i:Nat)=>A0f (i:Int) o oR a b c d)
 | [],out,t,h=>by simp only [J5,List.length_nil,List.range'_zero,List.map_nil,List.append_nil];rw [List.take_of_length_le (by simp at h;omega)]
 | _::tl,out,t,h=>by
  have hlt:t<out.length:=by simp at h;omega
  simp only [J5,F1]
  rw [A1n o oR a b c d tl _ (t+1) (by simp at h ⊢;omega),List.take_add_one,List.take_set_of_le (Nat.le_refl _),List.getElem?_set_self hlt,List.length_cons,List.range'_succ]
  simp
theorem A8i (n:Int) (o:FrmC) (oR:List (List Cel)) (a b c d:Int):N8 n o oR a b c d=(List.range n.toNat).map (fun (i:Nat)=>A0f (i:Int) o oR a b c d):=by
 unfold N8
 rw [A1n o oR a b c d _ _ 0 (by simp),List.range_eq_range'];simp
theorem A9a (n:Int) (o:FrmC) (oR:List (List Cel)) (a b c d:Int) (h:∀ i,0≤i∧i<n→C2r i o oR a b c d):∀ k,k<(N8 n o oR a b c d).length→((N8 n o oR a b c d).getD k []).length≤100:=by
 rw [A8i]
 intro k hk
 have hk':k<n.toNat:=by simpa using hk
 rw [List.getD_eq_getElem?_getD,List.getElem?_map,List.getElem?_range hk']
 exact C7d (h (k:Int) (by omega))
theorem A9c (n:Int) (ofc:FrmC) (ofcRows:List (List Cel)) (ofcRow:Int) (ofcCol:Int) (ofcRows1:Int) (ofcCols:Int) (ofcb:Nat) (ofcRowsq:Option Addr) (ofcRowsrs:List Slc) (ofcRowsk:Nat) (ofcb1:Nat) (hrowsofcRowsrs:C7 ofcRowsrs ofcRows) (hlofcRows:ofcRows.length≤9223372036854775807) (hcofcRows:ofcRows.length≤ofcRowsk) (hq:0≤n∧n≤40∧∀ i,0≤i∧i<n→C2r i ofc ofcRows ofcRow ofcCol ofcRows1 ofcCols) (R:List (List Cel)) (hR:N8 n ofc ofcRows ofcRow ofcCol ofcRows1 ofcCols=R):Con Tryz.prog 58 [iv n,.func (.func 59) #[] #[pt ofcb 0,pt ofcb1 0]] [bx ofcb (A0 ofc ⟨ofcRowsq,ofcRows.length,ofcRowsk⟩) 26,bx ofcb1 [iv ofcRow,iv ofcCol,iv ofcRows1,iv ofcCols] 61] [sl C4 ofcRowsq ofcRowsrs,G5 B2 ofcRowsrs ofcRows] ({t:VR×List Slc // VOk 1 R.length t.1∧C7 t.2 R}) (fun x=>.slice (va x.1.1.q) R.length x.1.1.k) (fun x=>(bx ofcb (A0 ofc ⟨ofcRowsq,ofcRows.length,ofcRowsk⟩) 26::bx ofcb1 [iv ofcRow,iv ofcCol,iv ofcRows1,iv ofcCols] 61::(vo C4 69 x.1.1 x.1.2)++([]))) (fun x=>[G5 B2 x.1.2 R]):=by
 refine zco Tryz.func58 [(0,iv n),(1,.func (.func 59) #[] #[pt ofcb 0,pt ofcb1 0])] fun X hX hr hD=>?_
 replace hR:=(N8.eq_1 ..).symm.trans hR
 have:=hrowsofcRowsrs.1
 refine sr 1 rfl (ip' 1 0 [] ?_)
 refine ie (sr 3 rfl (ip' 1 2 [(7,iv n)] ?_))
 refine H6 (q:=G5 B2 (List.replicate ((n).toNat) (⟨none,0,0⟩:Slc)) (List.replicate ((n).toNat) ([]:List Cel))) B6p ?_
 refine it rfl (B9b (β:=Cel) (l:=(n).toNat) (c:=(n).toNat) C2j C9g.ok rfl (by exact congrArg (fun z=>some (Value.int .i64 z)) (show n=(((n).toNat:Nat):Int) by omega)) (by exact congrArg (fun z=>some (Value.int .i64 z)) (show n=(((n).toNat:Nat):Int) by omega)) (by omega) (by first|omega|(simp only [List.length_cons,List.length_nil,List.length_append,List.length_take,List.length_drop];omega)) (by omega)) fun ⟨r1,hr2⟩=>?_
 have:=VOk.le hr2
 have:=VOk.cap hr2
 have:(List.replicate ((n).toNat) ([]:List Cel)).length=(n).toNat:=List.length_replicate
 refine ip' 1 0 [(5,.slice (va r1.q) ((List.replicate ((n).toNat) ([]:List Cel)).length) r1.k)] ?_
 refine ie (A3 (sr 3 rfl (ip' 3 0 [(10,iv ((List.replicate ((n).toNat) ([]:List Cel)).length:Int)),(11,iv 0)] ?_)))
 refine ie (B0 ?_)
 refine B2k (fun (out:List (List Cel)) (outr:VR) (outrs:List Slc) (t11:Nat)=>(t11≤(List.replicate ((n).toNat) ([]:List Cel)).length∧J5 ofc ofcRows ofcRow ofcCol ofcRows1 ofcCols ((List.replicate ((n).toNat) ([]:List Cel)).drop t11) out t11=R∧VOk 1 out.length outr∧C7 outrs out∧out.length=n.toNat,[(1,.func (.func 59) #[] #[pt ofcb 0,pt ofcb1 0]),(5,.slice (va outr.q) out.length outr.k),(10,iv ((List.replicate ((n).toNat) ([]:List Cel)).length:Int)),(11,iv (t11:Int))],(bx ofcb (A0 ofc ⟨ofcRowsq,ofcRows.length,ofcRowsk⟩) 26::bx ofcb1 [iv ofcRow,iv ofcCol,iv ofcRows1,iv ofcCols] 61::(vo C4 69 outr outrs)++([])),[G5 B2 (List.replicate ((n).toNat) (⟨none,0,0⟩:Slc)) (List.replicate ((n).toNat) ([]:List Cel)),sl C4 ofcRowsq ofcRowsrs,G5 B2 ofcRowsrs ofcRows,G5 B2 outrs out],(List.replicate ((n).toNat) ([]:List Cel)).length - t11)) (List.replicate ((n).toNat) ([]:List Cel)) r1 (List.replicate ((n).toNat) (⟨none,0,0⟩:Slc)) 0 ⟨(by omega),hR,hr2,(C7.rep ((n).toNat)),(by exact List.length_replicate)⟩ (mc [[bx ofcb (A0 ofc ⟨ofcRowsq,ofcRows.length,ofcRowsk⟩) 26],[bx ofcb1 [iv ofcRow,iv ofcCol,iv ofcRows1,iv ofcCols] 61],vo C4 69 r1 (List.replicate ((n).toNat) (⟨none,0,0⟩:Slc))] [true,true,true] rfl (by first|rfl|(simp only [List.length_set]<;>rfl))) (A2.pick [0,1,2,0] rfl) ?_
 rintro out outr outrs t11 ⟨hm3,hR,hokoutr,hrowsoutrs,hll⟩
 have:=VOk.le hokoutr
 have:=hrowsoutrs.1
 have:(List.replicate (n.toNat) ([]:List Cel)).length=n.toNat:=List.length_replicate
 have hqj:=fun (hh:(t11:Int)<n)=>hq.2.2 (t11:Int) ⟨by omega,hh⟩
 refine sr 1 rfl (ip' 1 0 [(12,bv (decide ((t11:Int)<((List.replicate ((n).toNat) ([]:List Cel)).length:Int))))] ?_)
 refine ie (A3 (S2 rfl (fun h4=>?_) (fun h4=>?_)))
 ·have h4p:(t11:Int)<((List.replicate ((n).toNat) ([]:List Cel)).length:Int):=by simpa using h4
  rw [U1 [] (show t11<(List.replicate ((n).toNat) ([]:List Cel)).length by omega)] at hR;replace hR:=(J5.eq_2 ..).symm.trans hR
  refine A4 (nx (A3 (B0 (sr 2 rfl (ip' 2 0 [(6,iv (t11:Int))] ?_)))))
  refine ie (A5 7 rfl (ip' 4 3 [(14,.slice (va outr.q) out.length outr.k),(15,iv (t11:Int)),(16,.func (.func 59) #[] #[pt ofcb 0,pt ofcb1 0]),(17,iv (t11:Int))] ?_))
  have hQ:=G6 hR;clear hR;obtain ⟨y2,hy2,hR⟩:=hQ
  refine it rfl (H2 (L2:=((vo C4 69 outr outrs)++([]))) (B7l (t11:Int) ofc ofcRows ofcRow ofcCol ofcRows1 ofcCols ofcb ofcRowsq ofcRowsrs ofcRowsk ofcb1 hrowsofcRowsrs (by first|omega|(simp only [List.length_take,List.length_drop,List.length_append,List.length_cons,List.length_nil,List.length_set,List.length_map];omega)|decide) (by first|omega|(simp only [List.length_take,List.length_drop,List.length_append,List.length_cons,List.length_nil,List.length_set,List.length_map];omega)|decide) (by exact hqj (by omega)) y2 hy2) rfl rfl rfl rfl rfl (A2.pick [1,2] rfl) (H3 [[bx ofcb (A0 ofc ⟨ofcRowsq,ofcRows.length,ofcRowsk⟩) 26],[bx ofcb1 [iv ofcRow,iv ofcCol,iv ofcRows1,iv ofcCols] 61],vo C4 69 outr outrs] [0,1,2] 3 rfl (by decide) rfl [[bx ofcb (A0 ofc ⟨ofcRowsq,ofcRows.length,ofcRowsk⟩) 26],[bx ofcb1 [iv ofcRow,iv ofcCol,iv ofcRows1,iv ofcCols] 61],vo C4 69 outr outrs] rfl (by first|rfl|simp only [List.flatten_cons,List.flatten_nil,List.append_nil,List.cons_append,List.nil_append,List.append_assoc])) (fun ⟨⟨q5,k6⟩,hp7⟩=>(bx ofcb (A0 ofc ⟨ofcRowsq,ofcRows.length,ofcRowsk⟩) 26::bx ofcb1 [iv ofcRow,iv ofcCol,iv ofcRows1,iv ofcCols] 61::(vo C4 69 outr outrs)++([]))) (fun _=>by first|rfl|simp only [List.append_nil,List.cons_append,List.nil_append,List.append_assoc])) fun ⟨⟨q5,k6⟩,hp7⟩=>?_
  obtain ⟨hc8,hl9⟩:=hp7
  obtain ⟨b10,hb11⟩:=VOk.some hokoutr (by omega)
  obtain ⟨q12,k13,j14⟩:=outr
  obtain rfl:q12=some b10:=hb11
  refine H6 (P9 (k:=t11) (d:=(⟨none,0,0⟩:Slc)) hrowsoutrs 4 rfl (by have:=hrowsoutrs.1;omega)) ?_
  have:=P8 hrowsoutrs (k:=t11) (d:=(⟨none,0,0⟩:Slc)) (by have:=hrowsoutrs.1;omega)
  refine ix rfl (S6 A0k rfl rfl rfl t11 rfl (by have:=hrowsoutrs.1;omega)) ?_
  have hw15:C7 (outrs.set t11 (⟨q5,y2.length,k6⟩:Slc)) (out.set t11 y2):=C7.set hrowsoutrs t11 ⟨rfl,(by first|omega|(simp only [List.length_take,List.length_drop,List.length_append,List.length_cons,List.length_nil,List.length_set,List.length_map];omega)|decide),(by first|omega|(simp only [List.length_take,List.length_drop,List.length_append,List.length_cons,List.length_nil,List.length_set,List.length_map];omega)|decide)⟩
  refine H6 (B3d t11 (r:=(⟨q5,y2.length,k6⟩:Slc)) (xs:=y2) (B5 5 rfl) (B5 1 rfl)) ?_
  refine it rfl (V1 (us:=[.slice q5 y2.length k6]) (u':=(⟨q5,y2.length,k6⟩:Slc)) (c:=C4) (sz:=1) A3e (fun _=>rfl) rfl rfl rfl 2 rfl rfl rfl rfl t11 0 rfl (gd (⟨none,0,0⟩:Slc) (by have:=hrowsoutrs.1;omega)) rfl rfl) fun _=>?_
  refine A1 (nx (A5 2 rfl (ix rfl (B4 rfl rfl rfl rfl (by omega)) ?_)))
  refine ip' 1 0 [(11,iv ((t11:Int)+1))] ?_
  refine A1 ?_
  exact B1k (z1:=out) (z2:=(⟨some b10,k13,j14⟩:VR)) (z3:=outrs) (z4:=t11) (out.set t11 y2) (⟨some b10,k13,j14⟩:VR) (outrs.set t11 (⟨q5,y2.length,k6⟩:Slc)) (t11+1) ⟨(by omega),hR,(VOk.cast hokoutr (by simp)),hw15,(by (rw [List.length_set];exact hll))⟩ (by (try dsimp only);omega) (mc [[bx ofcb (A0 ofc ⟨ofcRowsq,ofcRows.length,ofcRowsk⟩) 26],[bx ofcb1 [iv ofcRow,iv ofcCol,iv ofcRows1,iv ofcCols] 61],vo C4 69 (⟨some b10,k13,j14⟩:VR) (outrs.set t11 (⟨q5,y2.length,k6⟩:Slc))] [true,true,true] rfl (by first|rfl|(simp only [List.length_set]<;>rfl))) (A2.pick [3,4,5,0] rfl)
 have h4p:¬ ((t11:Int)<((List.replicate ((n).toNat) ([]:List Cel)).length:Int)):=by simpa using h4
 rw [U2 h4p] at hR;replace hR:=(J5.eq_1 ..).symm.trans hR
 refine G2 (nx (sr 2 rfl (ip' 2 0 [(4,.slice (va outr.q) out.length outr.k)] ?_)))
 subst hR
 refine ie (A7 ?_)
 exact zer hr hD (P3 rfl (B1 rfl)) ⟨(outr,outrs),⟨hokoutr,hrowsoutrs⟩⟩ (mc [[bx ofcb (A0 ofc ⟨ofcRowsq,ofcRows.length,ofcRowsk⟩) 26],[bx ofcb1 [iv ofcRow,iv ofcCol,iv ofcRows1,iv ofcCols] 61],vo C4 69 outr outrs] [true,true,true] rfl (by first|rfl|(simp only [List.length_set]<;>rfl))) (A2.con1 (B5 3 rfl) fn0)
def K5 (s:List Cel):List Cel :=
 (([]:List Cel)++s)
theorem A2o (s:List Cel):K5 s=s:=by simp [K5]
theorem A3a (s:List Cel) (sq:Option Addr) (sk:Nat) (hls:s.length≤9223372036854775807) (hcs:s.length≤sk) (hs:s.length≤1000000) (R:List Cel) (hR:K5 s=R):Con Tryz.prog 100 [.slice sq s.length sk] [] [sl B2 sq s] ({r:VR // VOk 12 R.length r}) (fun x=>.slice (va x.1.q) R.length x.1.k) (fun x=>((vo B2 72 x.1 R)++([]))) (fun x=>[]):=by
 refine zco Tryz.func100 [(0,.slice sq s.length sk)] fun X hX hr hD=>?_
 replace hR:=(K5.eq_1 ..).symm.trans hR
 refine sr 1 rfl (ip' 1 0 [] ?_)
 refine ie (A3 (sr 2 rfl (ip' 1 1 [(3,.slice sq s.length sk)] ?_)))
 refine ix rfl (D0n Tryz.underlying69 rfl rfl rfl) ?_
 refine ie (S2 rfl (fun h1=>?_) (fun h1=>?_))
 ·refine D5z 0 rfl (Option.isNone_iff_eq_none.1 h1) fun hx2=>?_
  replace hR:([]:List Cel)=R:=by rw [← hR];simp [hx2]
  refine sr 1 rfl (ip' 1 0 [(2,.slice none 0 0)] ?_)
  subst hR
  refine ie (A7 ?_)
  exact zer hr hD (P3 rfl (B1 rfl)) ⟨VR.nil,VOk.nil⟩ (mc [vo B2 72 VR.nil ([]:List Cel)] [true] rfl (by first|rfl|(simp only [List.length_set]<;>rfl))) fn0
 ·refine A4 (nx (sr 4 rfl (it rfl (A8p S9 rfl rfl) fun b3=>?_)))
  have:([]:List Cel).length=0:=rfl
  refine ip' 1 2 [(6,.slice sq s.length sk)] ?_
  refine it rfl (A4o (f:=B2) (r:=(⟨some b3,0,[]⟩:VR)) (xs:=([]:List Cel)) (ys:=s) (pre:=[]) (post:=[]) C6c (fun _=>rfl) (fun _=>rfl) rfl rfl rfl rfl rfl rfl rfl rfl (B5 0 rfl) (show VOk 12 0 _ from ⟨rfl,Nat.zero_le _,Nat.zero_le _⟩) (by first|omega|(simp only [List.length_cons,List.length_nil,List.length_append,List.length_take,List.length_drop];omega)) (by first|omega|(simp only [List.length_cons,List.length_nil,List.length_append,List.length_take,List.length_drop];omega))) fun ⟨r4,hr5⟩=>?_
  have:=VOk.le hr5
  have:=VOk.cap hr5
  refine ip' 1 0 [(2,.slice (va r4.q) ((([]:List Cel)++s).length) r4.k)] ?_
  subst hR
  refine ie (A7 ?_)
  exact zer hr hD (P3 rfl (B1 rfl)) ⟨r4,hr5⟩ (mc [vo B2 72 r4 (([]:List Cel)++s)] [true] rfl (by first|rfl|(simp only [List.length_set]<;>rfl))) fn0
theorem D6t {t:List (List Cel)} (h:∀ k,k<t.length→(t.getD k []).length≤100) {o:List Cel} (ho:o.length≤100) (i:Nat):∀ k,k<(t.set i o).length→((t.set i o).getD k []).length≤100:=fun k hk=>by
 have hk':k<t.length:=by simpa using hk
 have:=h k hk'
 rw [List.getD_eq_getElem?_getD,List.getElem?_set]
 rw [List.getD_eq_getElem?_getD] at this
 split
 ·split
  ·exact ho
  ·exact Nat.zero_le _
 ·exact this
def N6 (t12:List (List Cel)) (t14:Nat) (ag_frame_canvas_halves_l3:List (List Cel)→Nat→List (List Cel)):List Cel→List Cel→Nat→List (List Cel)
 | [],own,t23=>ag_frame_canvas_halves_l3 (t12.set t14 own) (t14+1)
 | hd_l4::tl_l4,own,t23=>(bif (((decide (hd_l4.wide=1))&&((decide (((t23:Int)+1)=((t12.getD t14 []).length:Int)))||(!decide (((t12.getD t14 []).getD (t23+1) Cel.zero).wide=2))))||((decide (hd_l4.wide=2))&&((decide ((t23:Int)=0))||(!decide (((t12.getD t14 []).getD (t23 - 1) Cel.zero).wide=1))))) then N6 t12 t14 ag_frame_canvas_halves_l3 tl_l4 (own.set t23 ({Cel.zero with base:=32,sty:=hd_l4.sty})) (t23+1) else N6 t12 t14 ag_frame_canvas_halves_l3 tl_l4 own (t23+1))
def N2:List (List Cel)→List (List Cel)→Nat→List (List Cel)
 | [],t12,t14=>t12
 | hd_l3::tl_l3,t12,t14=>(F1 (K5 (t12.getD t14 [])) fun (y1:List Cel)=>N6 t12 t14 (N2 tl_l3) (t12.getD t14 []) y1 0)
def Z0 (c:FrmC) (cRows:List (List Cel)):List (List Cel) :=
 N2 cRows cRows 0
theorem A3h (c:FrmC) (cRows:List (List Cel)) (cb:Nat) (cRowsr:VR) (cRowsrs:List Slc) (hokcRowsr:VOk 1 cRows.length cRowsr) (hrowscRowsrs:C7 cRowsrs cRows) (hw0:∀ k,k<cRows.length→(cRows.getD k []).length≤100) (R:List (List Cel)) (hR:Z0 c cRows=R):Con Tryz.prog 60 [pt cb 0] (bx cb (A0 c ⟨va cRowsr.q,cRows.length,cRowsr.k⟩) 106::(vo C4 69 cRowsr cRowsrs)++([])) [G5 B2 cRowsrs cRows] ({t:VR×List Slc // VOk 1 R.length t.1∧C7 t.2 R}) (fun x=>.tuple #[]) (fun x=>(bx cb (A0 c ⟨va x.1.1.q,R.length,x.1.1.k⟩) 106::(vo C4 69 x.1.1 x.1.2)++([]))) (fun x=>[G5 B2 x.1.2 R]):=by
 refine zco Tryz.func60 [(0,pt cb 0)] fun X hX hr hD=>?_
 replace hR:=(Z0.eq_1 ..).symm.trans hR
 have:=VOk.le hokcRowsr
 have:=hrowscRowsrs.1
 refine sr 7 rfl (zrl 7 0 [0] [(12,.slice (va cRowsr.q) cRows.length cRowsr.k),(13,iv (cRows.length:Int)),(14,iv 0)] ?_)
 refine ie (B0 ?_)
 refine B2k (fun (t12:List (List Cel)) (t12r:VR) (t12rs:List Slc) (t14:Nat)=>(t14≤cRows.length∧N2 (cRows.drop t14) t12 t14=R∧VOk 1 t12.length t12r∧C7 t12rs t12∧t12.length=cRows.length∧∀ k,k<t12.length→(t12.getD k []).length≤100,[(0,pt cb 0),(12,.slice (va t12r.q) t12.length t12r.k),(13,iv (cRows.length:Int)),(14,iv (t14:Int))],(bx cb (A0 c ⟨va t12r.q,t12.length,t12r.k⟩) 106::(vo C4 69 t12r t12rs)++([])),[G5 B2 cRowsrs cRows,G5 B2 t12rs t12],cRows.length - t14)) cRows cRowsr cRowsrs 0 ⟨(by omega),hR,hokcRowsr,hrowscRowsrs,(by rfl),(by exact hw0)⟩ (mc [[bx cb (A0 c ⟨va cRowsr.q,cRows.length,cRowsr.k⟩) 106],vo C4 69 cRowsr cRowsrs] [true,true] rfl (by first|rfl|(simp only [List.length_set]<;>rfl))) (A2.pick [0,0] rfl) ?_
 rintro t12 t12r t12rs t14 ⟨hm1,hR,hokt12r,hrowst12rs,hln,hw⟩
 have:=VOk.le hokt12r
 have:=hrowst12rs.1
 have hwt:=fun h=>hw t14 h
 refine sr 1 rfl (ip' 1 0 [(15,bv (decide ((t14:Int)<(cRows.length:Int))))] ?_)
 refine ie (A3 (S2 rfl (fun h2=>?_) (fun h2=>?_)))
 ·have h2p:(t14:Int)<(cRows.length:Int):=by simpa using h2
  rw [U1 [] (show t14<cRows.length by omega)] at hR;replace hR:=(N2.eq_2 ..).symm.trans hR
  refine A4 (nx (A3 (B0 (sr 5 rfl (ip' 1 4 [(16,iv (t14:Int))] ?_)))))
  obtain ⟨b3,hb4⟩:=VOk.some hokt12r (by omega)
  obtain ⟨q5,k6,j7⟩:=t12r
  obtain rfl:q5=some b3:=hb4
  refine H6 (P9 (k:=t14) (d:=(⟨none,0,0⟩:Slc)) hrowst12rs 1 rfl (by have:=hrowst12rs.1;omega)) ?_
  have:=P8 hrowst12rs (k:=t14) (d:=(⟨none,0,0⟩:Slc)) (by have:=hrowst12rs.1;omega)
  refine ix rfl (S6 A0k rfl rfl rfl t14 rfl (by have:=hrowst12rs.1;omega)) ?_
  refine ix rfl (F9 (V2 (u:=.slice ((t12rs.getD t14 (⟨none,0,0⟩:Slc)).q) ((t12rs.getD t14 (⟨none,0,0⟩:Slc)).n) ((t12rs.getD t14 (⟨none,0,0⟩:Slc)).k)) (c:=C4) (sz:=1) A3e (fun _=>rfl) rfl rfl 1 rfl t14 0 rfl (gd (⟨none,0,0⟩:Slc) (by have:=hrowst12rs.1;omega)) rfl) (Q7 hrowst12rs (by have:=hrowst12rs.1;omega))) ?_
  refine ip' 2 0 [(2,iv (t14:Int)),(3,.slice ((t12rs.getD t14 (⟨none,0,0⟩:Slc)).q) ((t12.getD t14 []).length) ((t12rs.getD t14 (⟨none,0,0⟩:Slc)).k))] ?_
  refine ie (sr 3 rfl (ip' 1 2 [(19,.slice ((t12rs.getD t14 (⟨none,0,0⟩:Slc)).q) ((t12.getD t14 []).length) ((t12rs.getD t14 (⟨none,0,0⟩:Slc)).k))] ?_))
  have hQ:=G6 hR;clear hR;obtain ⟨y1,hy1,hR⟩:=hQ
  refine it rfl (I5 (L2:=(bx cb (A0 c ⟨va (⟨some b3,k6,j7⟩:VR).q,t12.length,(⟨some b3,k6,j7⟩:VR).k⟩) 106::(vo C4 69 (⟨some b3,k6,j7⟩:VR) t12rs)++([]))) (A3a (t12.getD t14 []) ((t12rs.getD t14 (⟨none,0,0⟩:Slc)).q) ((t12rs.getD t14 (⟨none,0,0⟩:Slc)).k) (by first|omega|(simp only [List.length_take,List.length_drop,List.length_append,List.length_cons,List.length_nil,List.length_set,List.length_map];omega)|decide) (by first|omega|(simp only [List.length_take,List.length_drop,List.length_append,List.length_cons,List.length_nil,List.length_set,List.length_map];omega)|decide) (by first|omega|(simp only [List.length_append,List.length_cons,List.length_nil,List.length_take,List.length_drop,List.length_set];omega)) y1 hy1) rfl rfl rfl rfl rfl (A2.pick [0] rfl) (List.Perm.refl _) (fun ⟨r8,hk9⟩=>(bx cb (A0 c ⟨va (⟨some b3,k6,j7⟩:VR).q,t12.length,(⟨some b3,k6,j7⟩:VR).k⟩) 106::(vo B2 72 r8 y1)++((vo C4 69 (⟨some b3,k6,j7⟩:VR) t12rs)++([])))) (fun ⟨r8,hk9⟩=>H3 [vo B2 72 r8 y1,[bx cb (A0 c ⟨va (⟨some b3,k6,j7⟩:VR).q,t12.length,(⟨some b3,k6,j7⟩:VR).k⟩) 106],vo C4 69 (⟨some b3,k6,j7⟩:VR) t12rs] [1,0,2] 3 rfl (by decide) (by first|rfl|simp only [List.flatten_cons,List.flatten_nil,List.append_nil,List.cons_append,List.nil_append,List.append_assoc]) [[bx cb (A0 c ⟨va (⟨some b3,k6,j7⟩:VR).q,t12.length,(⟨some b3,k6,j7⟩:VR).k⟩) 106],vo B2 72 r8 y1,vo C4 69 (⟨some b3,k6,j7⟩:VR) t12rs] rfl (by first|rfl|simp only [List.flatten_cons,List.flatten_nil,List.append_nil,List.cons_append,List.nil_append,List.append_assoc]))) fun ⟨r8,hk9⟩=>?_
  have:=VOk.le hk9
  have:=VOk.cap hk9
  have hcl_rslicesCloneapiCellapiCell:=A2o (t12.getD t14 []);rw [hy1] at hcl_rslicesCloneapiCellapiCell;have:=congrArg List.length hcl_rslicesCloneapiCellapiCell;try simp only [List.length_take,List.length_drop] at this
  refine ip' 1 0 [(4,.slice (va r8.q) y1.length r8.k)] ?_
  refine ie (A3 (sr 3 rfl (ip' 3 0 [(21,.slice ((t12rs.getD t14 (⟨none,0,0⟩:Slc)).q) ((t12.getD t14 []).length) ((t12rs.getD t14 (⟨none,0,0⟩:Slc)).k)),(22,iv ((t12.getD t14 []).length:Int)),(23,iv 0)] ?_)))
  refine ie (B0 (W7 (H3 [[bx cb (A0 c ⟨va (⟨some b3,k6,j7⟩:VR).q,t12.length,(⟨some b3,k6,j7⟩:VR).k⟩) 106],vo B2 72 r8 y1,vo C4 69 (⟨some b3,k6,j7⟩:VR) t12rs] [0,2,1] 3 rfl (by decide) rfl [[bx cb (A0 c ⟨va (⟨some b3,k6,j7⟩:VR).q,t12.length,(⟨some b3,k6,j7⟩:VR).k⟩) 106],vo C4 69 (⟨some b3,k6,j7⟩:VR) t12rs,vo B2 72 r8 y1] rfl (by first|rfl|simp)) ?_))
  refine D2m (fun (own:List Cel) (ownr:VR) (t23:Nat)=>(t23≤(t12.getD t14 []).length∧N6 t12 t14 (N2 (cRows.drop (t14+1))) ((t12.getD t14 []).drop t23) own t23=R∧VOk 12 own.length ownr∧own.length=(t12.getD t14 []).length,[(0,pt cb 0),(2,iv (t14:Int)),(3,.slice ((t12rs.getD t14 (⟨none,0,0⟩:Slc)).q) ((t12.getD t14 []).length) ((t12rs.getD t14 (⟨none,0,0⟩:Slc)).k)),(4,.slice (va ownr.q) own.length ownr.k),(12,.slice (va (⟨some b3,k6,j7⟩:VR).q) t12.length ((⟨some b3,k6,j7⟩:VR).k)),(13,iv (cRows.length:Int)),(14,iv (t14:Int)),(21,.slice ((t12rs.getD t14 (⟨none,0,0⟩:Slc)).q) ((t12.getD t14 []).length) ((t12rs.getD t14 (⟨none,0,0⟩:Slc)).k)),(22,iv ((t12.getD t14 []).length:Int)),(23,iv (t23:Int))],(bx cb (A0 c ⟨va (⟨some b3,k6,j7⟩:VR).q,t12.length,(⟨some b3,k6,j7⟩:VR).k⟩) 106::(vo C4 69 (⟨some b3,k6,j7⟩:VR) t12rs)++((vo B2 72 ownr own)++([]))),[sl B2 ((t12rs.getD t14 (⟨none,0,0⟩:Slc)).q) (t12.getD t14 []),G5 B2 cRowsrs cRows,G5 B2 t12rs t12],(t12.getD t14 []).length - t23)) y1 r8 0 ⟨(by omega),hR,hk9,(by omega)⟩ (mc [[bx cb (A0 c ⟨va (⟨some b3,k6,j7⟩:VR).q,t12.length,(⟨some b3,k6,j7⟩:VR).k⟩) 106],vo C4 69 (⟨some b3,k6,j7⟩:VR) t12rs,vo B2 72 r8 y1] [true,true,true] rfl (by first|rfl|(simp only [List.length_set]<;>rfl))) A2.refl ?_
  rintro own ownr t23 ⟨hm10,hR,hokownr,hol⟩
  have:=VOk.le hokownr
  refine sr 1 rfl (ip' 1 0 [(24,bv (decide ((t23:Int)<((t12.getD t14 []).length:Int))))] ?_)
  refine ie (A3 (S2 rfl (fun h11=>?_) (fun h11=>?_)))
  ·have h11p:(t23:Int)<((t12.getD t14 []).length:Int):=by simpa using h11
   rw [U1 Cel.zero (show t23<(t12.getD t14 []).length by omega)] at hR;replace hR:=(N6.eq_2 ..).symm.trans hR
   refine A4 (nx (A3 (B0 (sr 6 rfl (ip' 1 5 [(25,iv (t23:Int))] ?_)))))
   refine J3 0 rfl (by omega) fun a12 hq13=>?_
   refine ix rfl (E8 S9 rfl rfl hq13 rfl t23 rfl (by omega)) ?_
   refine ix rfl (L4 (us:=B2 ((t12.getD t14 []).getD t23 Cel.zero)) B8o rfl rfl (G0 (c:=B2) (sz:=12) hq13 (fun _=>rfl) 0 rfl (gd Cel.zero (by omega))) rfl) ?_
   refine I7 3 0 [0] (fun b14=>[(6,pt b14 0),(5,iv (t23:Int))]) (fun b14=>(bx b14 (B2 ((t12.getD t14 []).getD t23 Cel.zero)) 72::bx cb (A0 c ⟨va (⟨some b3,k6,j7⟩:VR).q,t12.length,(⟨some b3,k6,j7⟩:VR).k⟩) 106::(vo C4 69 (⟨some b3,k6,j7⟩:VR) t12rs)++((vo B2 72 ownr own)++([])))) (fun b14=>?_)
   refine ie (sr 38 rfl (zrl 4 34 [0] [(31,bv (decide (((t12.getD t14 []).getD t23 Cel.zero).wide=1)))] ?_))
   refine zid 15 19 31 46 ((decide (((t23:Int)+1)=((t12.getD t14 []).length:Int)))||(!decide (((t12.getD t14 []).getD (t23+1) Cel.zero).wide=2))) (fun g15 g15p=>?_) ?_
   ·refine ip' 1 14 [(32,iv (t23:Int))] ?_
    refine ix rfl (B4 rfl rfl rfl rfl (by omega)) ?_
    refine ip' 4 9 [(37,bv (decide (((t23:Int)+1)=((t12.getD t14 []).length:Int))))] ?_
    refine zir 8 1 37 45 (!decide (((t12.getD t14 []).getD (t23+1) Cel.zero).wide=2)) (fun g16 g16p=>?_) ?_
    ·refine ip' 2 6 [(38,.slice ((t12rs.getD t14 (⟨none,0,0⟩:Slc)).q) ((t12.getD t14 []).length) ((t12rs.getD t14 (⟨none,0,0⟩:Slc)).k)),(39,iv (t23:Int))] ?_
     refine ix rfl (B4 rfl rfl rfl rfl (by omega)) ?_
     refine ix rfl (E8 S9 rfl rfl hq13 rfl (t23+1) (by omega) (by omega)) ?_
     refine ip' 1 3 [(42,pa ((Addr.add a12 ((t23+1) * 12)).add 3))] ?_
     refine ix rfl (C8 (v:=iv (((t12.getD t14 []).getD (t23+1) Cel.zero).wide)) (us:=[iv (((t12.getD t14 []).getD (t23+1) Cel.zero).wide)]) ty3 rfl rfl (A3x (G0 (c:=B2) (sz:=12) hq13 (fun _=>rfl) 0 rfl (gd Cel.zero (by omega))) (ws:=[iv (((t12.getD t14 []).getD (t23+1) Cel.zero).wide)]) 3 1 rfl) rfl) ?_
     refine ip' 2 0 [(45,bv (!decide (((t12.getD t14 []).getD (t23+1) Cel.zero).wide=2)))] ?_
     exact A1 (H1 8 37 45 g16 A2.refl (mc [[bx b14 (B2 ((t12.getD t14 []).getD t23 Cel.zero)) 72],[bx cb (A0 c ⟨va (⟨some b3,k6,j7⟩:VR).q,t12.length,(⟨some b3,k6,j7⟩:VR).k⟩) 106],vo C4 69 (⟨some b3,k6,j7⟩:VR) t12rs,vo B2 72 ownr own] [true,true,true,true] rfl (by first|rfl|(simp only [List.length_set]<;>rfl))) rfl rfl rfl rfl rfl)
    refine ip' 1 0 [(46,bv ((decide (((t23:Int)+1)=((t12.getD t14 []).length:Int)))||(!decide (((t12.getD t14 []).getD (t23+1) Cel.zero).wide=2))))] ?_
    exact A1 (H1 6 31 46 g15 A2.refl (mc [[bx b14 (B2 ((t12.getD t14 []).getD t23 Cel.zero)) 72],[bx cb (A0 c ⟨va (⟨some b3,k6,j7⟩:VR).q,t12.length,(⟨some b3,k6,j7⟩:VR).k⟩) 106],vo C4 69 (⟨some b3,k6,j7⟩:VR) t12rs,vo B2 72 ownr own] [true,true,true,true] rfl (by first|rfl|(simp only [List.length_set]<;>rfl))) rfl rfl rfl rfl rfl)
   refine ip' 1 18 [(47,bv ((decide (((t12.getD t14 []).getD t23 Cel.zero).wide=1))&&((decide (((t23:Int)+1)=((t12.getD t14 []).length:Int)))||(!decide (((t12.getD t14 []).getD (t23+1) Cel.zero).wide=2)))))] ?_
   refine zio 17 1 47 64 ((decide (((t12.getD t14 []).getD t23 Cel.zero).wide=2))&&((decide ((t23:Int)=0))||(!decide (((t12.getD t14 []).getD (t23 - 1) Cel.zero).wide=1)))) (fun g17=>?_) ?_
   ·have g17p:¬ ((((t12.getD t14 []).getD t23 Cel.zero).wide=1)∧((((t23:Int)+1)=((t12.getD t14 []).length:Int))∨(¬ ((t12.getD t14 []).getD (t23+1) Cel.zero).wide=2))):=by simpa using g17
    refine zrl 4 13 [0] [(51,bv (decide (((t12.getD t14 []).getD t23 Cel.zero).wide=2)))] ?_
    refine zid 12 1 51 63 ((decide ((t23:Int)=0))||(!decide (((t12.getD t14 []).getD (t23 - 1) Cel.zero).wide=1))) (fun g18 g18p=>?_) ?_
    ·refine ip' 3 9 [(54,bv (decide ((t23:Int)=0)))] ?_
     refine zir 8 1 54 62 (!decide (((t12.getD t14 []).getD (t23 - 1) Cel.zero).wide=1)) (fun g19 g19p=>?_) ?_
     ·refine ip' 2 6 [(55,.slice ((t12rs.getD t14 (⟨none,0,0⟩:Slc)).q) ((t12.getD t14 []).length) ((t12rs.getD t14 (⟨none,0,0⟩:Slc)).k)),(56,iv (t23:Int))] ?_
      refine ix rfl (Q0 rfl rfl rfl rfl (by omega)) ?_
      refine ix rfl (E8 S9 rfl rfl hq13 rfl (t23 - 1) (by omega) (by omega)) ?_
      refine ip' 1 3 [(59,pa ((Addr.add a12 ((t23 - 1) * 12)).add 3))] ?_
      refine ix rfl (C8 (v:=iv (((t12.getD t14 []).getD (t23 - 1) Cel.zero).wide)) (us:=[iv (((t12.getD t14 []).getD (t23 - 1) Cel.zero).wide)]) ty3 rfl rfl (A3x (G0 (c:=B2) (sz:=12) hq13 (fun _=>rfl) 0 rfl (gd Cel.zero (by omega))) (ws:=[iv (((t12.getD t14 []).getD (t23 - 1) Cel.zero).wide)]) 3 1 rfl) rfl) ?_
      refine ip' 2 0 [(62,bv (!decide (((t12.getD t14 []).getD (t23 - 1) Cel.zero).wide=1)))] ?_
      exact A1 (H1 8 54 62 g19 A2.refl (mc [[bx b14 (B2 ((t12.getD t14 []).getD t23 Cel.zero)) 72],[bx cb (A0 c ⟨va (⟨some b3,k6,j7⟩:VR).q,t12.length,(⟨some b3,k6,j7⟩:VR).k⟩) 106],vo C4 69 (⟨some b3,k6,j7⟩:VR) t12rs,vo B2 72 ownr own] [true,true,true,true] rfl (by first|rfl|(simp only [List.length_set]<;>rfl))) rfl rfl rfl rfl rfl)
     refine ip' 1 0 [(63,bv ((decide ((t23:Int)=0))||(!decide (((t12.getD t14 []).getD (t23 - 1) Cel.zero).wide=1))))] ?_
     exact A1 (H1 4 51 63 g18 A2.refl (mc [[bx b14 (B2 ((t12.getD t14 []).getD t23 Cel.zero)) 72],[bx cb (A0 c ⟨va (⟨some b3,k6,j7⟩:VR).q,t12.length,(⟨some b3,k6,j7⟩:VR).k⟩) 106],vo C4 69 (⟨some b3,k6,j7⟩:VR) t12rs,vo B2 72 ownr own] [true,true,true,true] rfl (by first|rfl|(simp only [List.length_set]<;>rfl))) rfl rfl rfl rfl rfl)
    refine ip' 1 0 [(64,bv ((decide (((t12.getD t14 []).getD t23 Cel.zero).wide=2))&&((decide ((t23:Int)=0))||(!decide (((t12.getD t14 []).getD (t23 - 1) Cel.zero).wide=1)))))] ?_
    exact A1 (H1 4 47 64 g17 A2.refl (mc [[bx b14 (B2 ((t12.getD t14 []).getD t23 Cel.zero)) 72],[bx cb (A0 c ⟨va (⟨some b3,k6,j7⟩:VR).q,t12.length,(⟨some b3,k6,j7⟩:VR).k⟩) 106],vo C4 69 (⟨some b3,k6,j7⟩:VR) t12rs,vo B2 72 ownr own] [true,true,true,true] rfl (by first|rfl|(simp only [List.length_set]<;>rfl))) rfl rfl rfl rfl rfl)
   refine ip' 1 0 [(7,bv (((decide (((t12.getD t14 []).getD t23 Cel.zero).wide=1))&&((decide (((t23:Int)+1)=((t12.getD t14 []).length:Int)))||(!decide (((t12.getD t14 []).getD (t23+1) Cel.zero).wide=2))))||((decide (((t12.getD t14 []).getD t23 Cel.zero).wide=2))&&((decide ((t23:Int)=0))||(!decide (((t12.getD t14 []).getD (t23 - 1) Cel.zero).wide=1))))))] ?_
   refine ie (sr 1 rfl (ip' 1 0 [(65,bv (((decide (((t12.getD t14 []).getD t23 Cel.zero).wide=1))&&((decide (((t23:Int)+1)=((t12.getD t14 []).length:Int)))||(!decide (((t12.getD t14 []).getD (t23+1) Cel.zero).wide=2))))||((decide (((t12.getD t14 []).getD t23 Cel.zero).wide=2))&&((decide ((t23:Int)=0))||(!decide (((t12.getD t14 []).getD (t23 - 1) Cel.zero).wide=1))))))] ?_))
   refine ie ?_
   refine zjb rfl hR ?_ ?_<;>clear hR<;>intro hR h20
   ·have h20p:((((t12.getD t14 []).getD t23 Cel.zero).wide=1)∧((((t23:Int)+1)=((t12.getD t14 []).length:Int))∨(¬ ((t12.getD t14 []).getD (t23+1) Cel.zero).wide=2)))∨((((t12.getD t14 []).getD t23 Cel.zero).wide=2)∧(((t23:Int)=0)∨(¬ ((t12.getD t14 []).getD (t23 - 1) Cel.zero).wide=1))):=by first|simpa using h20|(simp at h20 ⊢;omega)
    refine A5 7 rfl (zrl 5 2 [0] [(66,.slice (va ownr.q) own.length ownr.k),(67,iv (t23:Int)),(70,ag (B2 ({Cel.zero with base:=32,sty:=((t12.getD t14 []).getD t23 Cel.zero).sty})))] ?_)
    obtain ⟨b21,hb22⟩:=VOk.some hokownr (by omega)
    obtain ⟨q23,k24,j25⟩:=ownr
    obtain rfl:q23=some b21:=hb22
    refine ix rfl (S6 S9 rfl rfl rfl t23 rfl (by omega)) ?_
    refine it rfl (V1 (us:=B2 ({Cel.zero with base:=32,sty:=((t12.getD t14 []).getD t23 Cel.zero).sty})) (u':={Cel.zero with base:=32,sty:=((t12.getD t14 []).getD t23 Cel.zero).sty}) (c:=B2) (sz:=12) B8o (fun _=>rfl) rfl rfl rfl 3 rfl rfl rfl rfl t23 0 rfl (gd Cel.zero (by omega)) rfl rfl) fun _=>?_
    refine A1 (nx (A5 2 rfl (ix rfl (B4 rfl rfl rfl rfl (by omega)) ?_)))
    refine ip' 1 0 [(23,iv ((t23:Int)+1))] ?_
    refine A1 ?_
    exact D0u (z1:=own) (z2:=(⟨some b21,k24,j25⟩:VR)) (z3:=t23) (own.set t23 ({Cel.zero with base:=32,sty:=((t12.getD t14 []).getD t23 Cel.zero).sty})) (⟨some b21,k24,j25⟩:VR) (t23+1) ⟨(by omega),hR,(VOk.cast hokownr (by simp)),(by first|exact hol|(rw [List.length_set];exact hol))⟩ (by (try dsimp only);omega) (mc [[bx b14 (B2 ((t12.getD t14 []).getD t23 Cel.zero)) 72],[bx cb (A0 c ⟨va (⟨some b3,k6,j7⟩:VR).q,t12.length,(⟨some b3,k6,j7⟩:VR).k⟩) 106],vo C4 69 (⟨some b3,k6,j7⟩:VR) t12rs,vo B2 72 (⟨some b21,k24,j25⟩:VR) (own.set t23 ({Cel.zero with base:=32,sty:=((t12.getD t14 []).getD t23 Cel.zero).sty}))] [false,true,true,true] rfl (by first|rfl|(simp only [List.length_set]<;>rfl))) A2.refl
   have h20p:¬ (((((t12.getD t14 []).getD t23 Cel.zero).wide=1)∧((((t23:Int)+1)=((t12.getD t14 []).length:Int))∨(¬ ((t12.getD t14 []).getD (t23+1) Cel.zero).wide=2)))∨((((t12.getD t14 []).getD t23 Cel.zero).wide=2)∧(((t23:Int)=0)∨(¬ ((t12.getD t14 []).getD (t23 - 1) Cel.zero).wide=1)))):=by first|simpa using h20|(simp at h20 ⊢;omega)
   refine A4 (nx (A5 2 rfl (ix rfl (B4 rfl rfl rfl rfl (by omega)) ?_)))
   refine ip' 1 0 [(23,iv ((t23:Int)+1))] ?_
   refine A1 ?_
   exact D0u (z1:=own) (z2:=ownr) (z3:=t23) own ownr (t23+1) ⟨(by omega),hR,hokownr,(by first|exact hol|(rw [List.length_set];exact hol))⟩ (by (try dsimp only);omega) (mc [[bx b14 (B2 ((t12.getD t14 []).getD t23 Cel.zero)) 72],[bx cb (A0 c ⟨va (⟨some b3,k6,j7⟩:VR).q,t12.length,(⟨some b3,k6,j7⟩:VR).k⟩) 106],vo C4 69 (⟨some b3,k6,j7⟩:VR) t12rs,vo B2 72 ownr own] [false,true,true,true] rfl (by first|rfl|(simp only [List.length_set]<;>rfl))) A2.refl
  have h11p:¬ ((t23:Int)<((t12.getD t14 []).length:Int)):=by simpa using h11
  rw [U2 h11p] at hR;replace hR:=(N6.eq_1 ..).symm.trans hR
  refine G2 (nx (A5 9 rfl (zrl 7 2 [0] [(77,.slice (va (⟨some b3,k6,j7⟩:VR).q) t12.length ((⟨some b3,k6,j7⟩:VR).k)),(78,iv (t14:Int)),(79,.slice (va ownr.q) own.length ownr.k)] ?_)))
  refine ix rfl (S6 A0k rfl rfl rfl t14 rfl (by have:=hrowst12rs.1;omega)) ?_
  have:=VOk.cap hokownr
  have:=VOk.le hokownr
  refine S1 (bx cb (A0 c ⟨va (⟨some b3,k6,j7⟩:VR).q,t12.length,(⟨some b3,k6,j7⟩:VR).k⟩) 106::(vo C4 69 (⟨some b3,k6,j7⟩:VR) t12rs)++([])) [] (T:=72) (c:=B2) (r:=ownr) (xs:=own) hokownr (by first|rfl|simp only [List.cons_append,List.append_assoc,List.nil_append,List.append_nil]) ?_
  refine C4v (L':=(bx cb (A0 c ⟨va (⟨some b3,k6,j7⟩:VR).q,t12.length,(⟨some b3,k6,j7⟩:VR).k⟩) 106::(vo C4 69 (⟨some b3,k6,j7⟩:VR) t12rs)++([]))) (by first|rfl|simp only [List.cons_append,List.append_assoc,List.nil_append,List.append_nil]) ?_
  have hw26:C7 (t12rs.set t14 (⟨va ownr.q,own.length,ownr.k⟩:Slc)) (t12.set t14 own):=C7.set hrowst12rs t14 ⟨rfl,(by first|omega|(simp only [List.length_take,List.length_drop,List.length_append,List.length_cons,List.length_nil,List.length_set,List.length_map];omega)|decide),(by first|omega|(simp only [List.length_take,List.length_drop,List.length_append,List.length_cons,List.length_nil,List.length_set,List.length_map];omega)|decide)⟩
  refine H6 (B3d t14 (r:=(⟨va ownr.q,own.length,ownr.k⟩:Slc)) (xs:=own) (B5 3 rfl) (B5 0 rfl)) ?_
  refine it rfl (V1 (us:=[.slice (va ownr.q) own.length ownr.k]) (u':=(⟨va ownr.q,own.length,ownr.k⟩:Slc)) (c:=C4) (sz:=1) A3e (fun _=>rfl) rfl rfl rfl 1 rfl rfl rfl rfl t14 0 rfl (gd (⟨none,0,0⟩:Slc) (by have:=hrowst12rs.1;omega)) rfl rfl) fun _=>?_
  refine A1 (nx (A5 2 rfl (ix rfl (B4 rfl rfl rfl rfl (by omega)) ?_)))
  refine ip' 1 0 [(14,iv ((t14:Int)+1))] ?_
  refine A1 ?_
  exact B1k (z1:=t12) (z2:=(⟨some b3,k6,j7⟩:VR)) (z3:=t12rs) (z4:=t14) (t12.set t14 own) (⟨some b3,k6,j7⟩:VR) (t12rs.set t14 (⟨va ownr.q,own.length,ownr.k⟩:Slc)) (t14+1) ⟨(by omega),hR,(VOk.cast hokt12r (by simp)),hw26,(by (rw [List.length_set];exact hln)),(by exact D6t hw (by omega) _)⟩ (by (try dsimp only);omega) (mc [[bx cb (A0 c ⟨va (⟨some b3,k6,j7⟩:VR).q,t12.length,(⟨some b3,k6,j7⟩:VR).k⟩) 106],vo C4 69 (⟨some b3,k6,j7⟩:VR) (t12rs.set t14 (⟨va ownr.q,own.length,ownr.k⟩:Slc))] [true,true] rfl (by first|rfl|(simp only [List.length_set]<;>rfl))) (A2.pick [3,0] rfl)
 have h2p:¬ ((t14:Int)<(cRows.length:Int)):=by simpa using h2
 rw [U2 h2p] at hR;replace hR:=(N2.eq_1 ..).symm.trans hR
 subst hR
 refine G2 ?_
 exact zen hr hD (B0s rfl) ⟨(t12r,t12rs),⟨hokt12r,hrowst12rs⟩⟩ (mc [[bx cb (A0 c ⟨va t12r.q,t12.length,t12r.k⟩) 106],vo C4 69 t12r t12rs] [true,true] rfl (by first|rfl|(simp only [List.length_set]<;>rfl))) (A2.con1 (B5 1 rfl) fn0)
def A3p (f:FrmC) (fR:List (List Cel)) (rRow:Int) (rCol:Int) (rRows:Int) (rCols:Int):FrmC×List (List Cel)×Int :=
 (bif (!decide ((H4 f fR)=0)) then (FrmC.zero,([]:List (List Cel)),(H4 f fR)) else (bif (!(A1c f fR rRow rCol rRows rCols)) then (FrmC.zero,([]:List (List Cel)),2) else (F1 (N8 rRows f fR rRow rCol rRows rCols) fun (y3:List (List Cel))=>(F1 (Z0 ({f with cols:=rCols}) y3) fun (y0:List (List Cel))=>(bif ((((decide ((0:Int)≤(IntKind.i64.wrap (f.cursor.row - rRow))))&&(decide ((IntKind.i64.wrap (f.cursor.row - rRow))<rRows)))&&(decide ((0:Int)≤(IntKind.i64.wrap (f.cursor.col - rCol)))))&&(decide ((IntKind.i64.wrap (f.cursor.col - rCol))<rCols))) then ({f with cols:=rCols,cursor:=(⟨(IntKind.i64.wrap (f.cursor.row - rRow)),(IntKind.i64.wrap (f.cursor.col - rCol))⟩:Plc)},y0,0) else ({f with cols:=rCols,cursor:=Plc.zero,visible:=false},y0,0))))))
theorem A7s (f:FrmC) (fr:List (List Cel)) (a b c d:Int):(A3p f fr a b c d).1.title.length≤f.title.length:=by
 unfold A3p F1
 simp only [Bool.cond_eq_ite]
 repeat' split
 all_goals first|exact Nat.zero_le _|exact Nat.le_refl _
theorem B2e (f:FrmC) (fR:List (List Cel)) (rRow:Int) (rCol:Int) (rRows:Int) (rCols:Int) (fQ:Option Addr) (fZ:List Slc) (fK:Nat) (hrowsfRowsrs:C7 fZ fR) (hlfRows:fR.length≤9223372036854775807) (hcfRows:fR.length≤fK) (hT:f.title.length≤100000000) (R:FrmC×List (List Cel)×Int) (hR:A3p f fR rRow rCol rRows rCols=R):Con Tryz.prog 25 [ag (A0 f ⟨fQ,fR.length,fK⟩),ag [iv rRow,iv rCol,iv rRows,iv rCols]] [] [sl C4 fQ fZ,G5 B2 fZ fR,A0z,A1a] ({t:VR×List Slc // VOk 1 R.2.1.length t.1∧C7 t.2 R.2.1}) (fun x=>.tuple #[ag (A0 R.1 ⟨va x.1.1.q,R.2.1.length,x.1.1.k⟩),iv R.2.2]) (fun x=>((vo C4 69 x.1.1 x.1.2)++([]))) (fun x=>[G5 B2 x.1.2 R.2.1]):=by
 refine zco Tryz.func25 [(0,ag (A0 f ⟨fQ,fR.length,fK⟩)),(1,ag [iv rRow,iv rCol,iv rRows,iv rCols])] fun X hX hr hD=>?_
 replace hR:=(A3p.eq_1 ..).symm.trans hR
 have:=hrowsfRowsrs.1
 refine sr 4 rfl (D4d 4 0 [] (fun b1 b2 b3=>[(2,pt b1 0),(3,pt b2 0),(4,pt b3 0)]) (fun b1 b2 b3=>[bx b3 (A0 FrmC.zero ⟨none,0,0⟩) 26,bx b2 [iv rRow,iv rCol,iv rRows,iv rCols] 61,bx b1 (A0 f ⟨fQ,fR.length,fK⟩) 26]) (fun b1 b2 b3=>?_))
 refine ie (A3 (sr 3 rfl (zrl 1 2 [2] [(10,ag (A0 f ⟨fQ,fR.length,fK⟩))] ?_)))
 refine zca (A3z f fR fQ fZ fK hrowsfRowsrs (by first|omega|(simp only [List.length_take,List.length_drop,List.length_append,List.length_cons,List.length_nil,List.length_set,List.length_map];omega)|decide) (by first|omega|(simp only [List.length_take,List.length_drop,List.length_append,List.length_cons,List.length_nil,List.length_set,List.length_map];omega)|decide) (by first|omega|(simp only [List.length_nil];omega)|(dsimp only;omega)) _ rfl) A2.refl ?_
 refine ip' 1 0 [(6,iv (H4 f fR))] ?_
 refine ie (sr 2 rfl (ip' 2 0 [(13,bv (!decide ((H4 f fR)=0)))] ?_))
 refine ie ?_
 refine zjn rfl hR ?_ ?_<;>clear hR<;>intro hR h4 h4p
 ·refine sr 4 rfl (zrg 4 0 [0] [(5,iv (H4 f fR))] [bx b3 (A0 FrmC.zero ⟨none,0,0⟩) 26,bx b2 [iv rRow,iv rCol,iv rRows,iv rCols] 61,bx b1 (A0 f ⟨fQ,fR.length,fK⟩) 26] ?_)
  subst hR
  refine ie (A7 ?_)
  exact zer hr hD (V5 rfl (I1 (us:=A0 FrmC.zero ⟨none,0,0⟩) A7f rfl 0 rfl rfl rfl) (B1 rfl)) ⟨(VR.nil,([]:List Slc)),⟨VOk.nil,C7.none⟩⟩ (mc [[bx b3 (A0 FrmC.zero ⟨none,0,0⟩) 26],[bx b2 [iv rRow,iv rCol,iv rRows,iv rCols] 61],[bx b1 (A0 f ⟨fQ,fR.length,fK⟩) 26],vo C4 69 VR.nil ([]:List Slc)] [false,false,false,true] rfl (by first|rfl|(simp only [List.length_set]<;>rfl))) (A2.con1 P0 fn0)
 have hfc:=A3d (by first|exact h4p|simpa using h4)
 refine A4 (nx (A3 (sr 4 rfl (zrl 2 2 [2,1] [(16,ag (A0 f ⟨fQ,fR.length,fK⟩)),(17,ag [iv rRow,iv rCol,iv rRows,iv rCols])] ?_))))
 refine zca (B2g f fR rRow rCol rRows rCols fQ fZ fK hrowsfRowsrs (by first|omega|(simp only [List.length_take,List.length_drop,List.length_append,List.length_cons,List.length_nil,List.length_set,List.length_map];omega)|decide) (by first|omega|(simp only [List.length_take,List.length_drop,List.length_append,List.length_cons,List.length_nil,List.length_set,List.length_map];omega)|decide) (by first|omega|(dsimp only;omega)) _ rfl) (A2.pick [0,1] rfl) ?_
 refine ip' 1 0 [(19,bv (!(A1c f fR rRow rCol rRows rCols)))] ?_
 refine ie ?_
 refine zjb rfl hR ?_ ?_<;>clear hR<;>intro hR h5
 ·refine sr 3 rfl (zrg 3 0 [0] [(5,iv 2)] [bx b3 (A0 FrmC.zero ⟨none,0,0⟩) 26,bx b2 [iv rRow,iv rCol,iv rRows,iv rCols] 61,bx b1 (A0 f ⟨fQ,fR.length,fK⟩) 26] ?_)
  subst hR
  refine ie (A7 ?_)
  exact zer hr hD (V5 rfl (I1 (us:=A0 FrmC.zero ⟨none,0,0⟩) A7f rfl 0 rfl rfl rfl) (B1 rfl)) ⟨(VR.nil,([]:List Slc)),⟨VOk.nil,C7.none⟩⟩ (mc [[bx b3 (A0 FrmC.zero ⟨none,0,0⟩) 26],[bx b2 [iv rRow,iv rCol,iv rRows,iv rCols] 61],[bx b1 (A0 f ⟨fQ,fR.length,fK⟩) 26],vo C4 69 VR.nil ([]:List Slc)] [false,false,false,true] rfl (by first|rfl|(simp only [List.length_set]<;>rfl))) (A2.con1 P0 fn0)
 have hls:=C6f (by simpa using h5)
 have hpm:0≤rRows∧rRows≤40∧∀ i,0≤i∧i<rRows→C2r i f fR rRow rCol rRows rCols:=⟨by omega,by omega,fun i hi=>⟨B4y.of hfc,by omega,by omega,by omega,by omega,by omega,by omega,by omega⟩⟩
 refine A4 (nx (sr 4 rfl (I7 4 0 [2,0] (fun b6=>[(7,pt b6 0)]) (fun b6=>[bx b6 (A0 f ⟨fQ,fR.length,fK⟩) 106,bx b3 (A0 FrmC.zero ⟨none,0,0⟩) 26,bx b2 [iv rRow,iv rCol,iv rRows,iv rCols] 61,bx b1 (A0 f ⟨fQ,fR.length,fK⟩) 26]) (fun b6=>?_))))
 refine ie (sr 5 rfl (zrg 5 0 [2,0] [] [bx b6 (A0 ({f with cols:=rCols}) ⟨fQ,fR.length,fK⟩) 106,bx b3 (A0 FrmC.zero ⟨none,0,0⟩) 26,bx b2 [iv rRow,iv rCol,iv rRows,iv rCols] 61,bx b1 (A0 f ⟨fQ,fR.length,fK⟩) 26] ?_))
 refine ie (sr 7 rfl (zrl 3 4 [2] [(28,iv rRows),(29,.func (.func 59) #[] #[pt b1 0,pt b2 0])] ?_))
 have hQ:=G6 hR;clear hR;obtain ⟨y3,hy3,hR⟩:=hQ
 refine it rfl (I5 (L2:=[bx b6 (A0 ({f with cols:=rCols}) ⟨fQ,fR.length,fK⟩) 106,bx b3 (A0 FrmC.zero ⟨none,0,0⟩) 26]) (A9c rRows f fR rRow rCol rRows rCols b1 fQ fZ fK b2 hrowsfRowsrs (by first|omega|(simp only [List.length_take,List.length_drop,List.length_append,List.length_cons,List.length_nil,List.length_set,List.length_map];omega)|decide) (by first|omega|(simp only [List.length_take,List.length_drop,List.length_append,List.length_cons,List.length_nil,List.length_set,List.length_map];omega)|decide) (by exact hpm) y3 hy3) rfl rfl rfl rfl rfl (A2.pick [0,1] rfl) (H3 [[bx b6 (A0 ({f with cols:=rCols}) ⟨fQ,fR.length,fK⟩) 106],[bx b3 (A0 FrmC.zero ⟨none,0,0⟩) 26],[bx b2 [iv rRow,iv rCol,iv rRows,iv rCols] 61],[bx b1 (A0 f ⟨fQ,fR.length,fK⟩) 26]] [3,2,0,1] 4 rfl (by decide) rfl [[bx b1 (A0 f ⟨fQ,fR.length,fK⟩) 26],[bx b2 [iv rRow,iv rCol,iv rRows,iv rCols] 61],[bx b6 (A0 ({f with cols:=rCols}) ⟨fQ,fR.length,fK⟩) 106],[bx b3 (A0 FrmC.zero ⟨none,0,0⟩) 26]] rfl (by first|rfl|simp only [List.flatten_cons,List.flatten_nil,List.append_nil,List.cons_append,List.nil_append,List.append_assoc])) (fun ⟨⟨r7,rs8⟩,hp11⟩=>(bx b1 (A0 f ⟨fQ,fR.length,fK⟩) 26::bx b2 [iv rRow,iv rCol,iv rRows,iv rCols] 61::bx b6 (A0 ({f with cols:=rCols}) ⟨fQ,fR.length,fK⟩) 106::bx b3 (A0 FrmC.zero ⟨none,0,0⟩) 26::(vo C4 69 r7 rs8)++([]))) (fun ⟨⟨r7,rs8⟩,hp11⟩=>H3 [[bx b1 (A0 f ⟨fQ,fR.length,fK⟩) 26],[bx b2 [iv rRow,iv rCol,iv rRows,iv rCols] 61],vo C4 69 r7 rs8,[bx b6 (A0 ({f with cols:=rCols}) ⟨fQ,fR.length,fK⟩) 106],[bx b3 (A0 FrmC.zero ⟨none,0,0⟩) 26]] [0,1,3,4,2] 5 rfl (by decide) (by first|rfl|simp only [List.flatten_cons,List.flatten_nil,List.append_nil,List.cons_append,List.nil_append,List.append_assoc]) [[bx b1 (A0 f ⟨fQ,fR.length,fK⟩) 26],[bx b2 [iv rRow,iv rCol,iv rRows,iv rCols] 61],[bx b6 (A0 ({f with cols:=rCols}) ⟨fQ,fR.length,fK⟩) 106],[bx b3 (A0 FrmC.zero ⟨none,0,0⟩) 26],vo C4 69 r7 rs8] rfl (by first|rfl|simp only [List.flatten_cons,List.flatten_nil,List.append_nil,List.cons_append,List.nil_append,List.append_assoc]))) fun ⟨⟨r7,rs8⟩,hp11⟩=>?_
 try dsimp only at hp11
 obtain ⟨hk9,hw10⟩:=hp11
 have:=VOk.le hk9
 have:=VOk.cap hk9
 have:=hw10.1
 have hw0:=A9a rRows f fR rRow rCol rRows rCols hpm.2.2;rw [hy3] at hw0
 refine zrg 3 0 [2] [] (bx b1 (A0 f ⟨fQ,fR.length,fK⟩) 26::bx b2 [iv rRow,iv rCol,iv rRows,iv rCols] 61::bx b6 (A0 ({f with cols:=rCols}) ⟨va r7.q,y3.length,r7.k⟩) 106::bx b3 (A0 FrmC.zero ⟨none,0,0⟩) 26::(vo C4 69 r7 rs8)++([])) ?_
 refine ie (sr 1 rfl ?_)
 have hQ:=G6 hR;clear hR;obtain ⟨y0,hy0,hR⟩:=hQ
 refine it rfl (I5 (L2:=[bx b1 (A0 f ⟨fQ,fR.length,fK⟩) 26,bx b2 [iv rRow,iv rCol,iv rRows,iv rCols] 61,bx b3 (A0 FrmC.zero ⟨none,0,0⟩) 26]) (A3h ({f with cols:=rCols}) y3 b6 r7 rs8 hk9 hw10 (by exact hw0) y0 hy0) rfl rfl rfl rfl rfl (A2.pick [0] rfl) (H3 [[bx b1 (A0 f ⟨fQ,fR.length,fK⟩) 26],[bx b2 [iv rRow,iv rCol,iv rRows,iv rCols] 61],[bx b6 (A0 ({f with cols:=rCols}) ⟨va r7.q,y3.length,r7.k⟩) 106],[bx b3 (A0 FrmC.zero ⟨none,0,0⟩) 26],vo C4 69 r7 rs8] [2,4,0,1,3] 5 rfl (by decide) rfl [[bx b6 (A0 ({f with cols:=rCols}) ⟨va r7.q,y3.length,r7.k⟩) 106],vo C4 69 r7 rs8,[bx b1 (A0 f ⟨fQ,fR.length,fK⟩) 26],[bx b2 [iv rRow,iv rCol,iv rRows,iv rCols] 61],[bx b3 (A0 FrmC.zero ⟨none,0,0⟩) 26]] rfl (by first|rfl|simp only [List.flatten_cons,List.flatten_nil,List.append_nil,List.cons_append,List.nil_append,List.append_assoc])) (fun ⟨⟨r12,rs13⟩,hp16⟩=>(bx b6 (A0 ({f with cols:=rCols}) ⟨va r12.q,y0.length,r12.k⟩) 106::bx b1 (A0 f ⟨fQ,fR.length,fK⟩) 26::bx b2 [iv rRow,iv rCol,iv rRows,iv rCols] 61::bx b3 (A0 FrmC.zero ⟨none,0,0⟩) 26::(vo C4 69 r12 rs13)++([]))) (fun ⟨⟨r12,rs13⟩,hp16⟩=>H3 [[bx b6 (A0 ({f with cols:=rCols}) ⟨va r12.q,y0.length,r12.k⟩) 106],vo C4 69 r12 rs13,[bx b1 (A0 f ⟨fQ,fR.length,fK⟩) 26],[bx b2 [iv rRow,iv rCol,iv rRows,iv rCols] 61],[bx b3 (A0 FrmC.zero ⟨none,0,0⟩) 26]] [0,2,3,4,1] 5 rfl (by decide) (by first|rfl|simp only [List.flatten_cons,List.flatten_nil,List.append_nil,List.cons_append,List.nil_append,List.append_assoc]) [[bx b6 (A0 ({f with cols:=rCols}) ⟨va r12.q,y0.length,r12.k⟩) 106],[bx b1 (A0 f ⟨fQ,fR.length,fK⟩) 26],[bx b2 [iv rRow,iv rCol,iv rRows,iv rCols] 61],[bx b3 (A0 FrmC.zero ⟨none,0,0⟩) 26],vo C4 69 r12 rs13] rfl (by first|rfl|simp only [List.flatten_cons,List.flatten_nil,List.append_nil,List.cons_append,List.nil_append,List.append_assoc]))) fun ⟨⟨r12,rs13⟩,hp16⟩=>?_
 try dsimp only at hp16
 obtain ⟨hk14,hw15⟩:=hp16
 have:=VOk.le hk14
 have:=VOk.cap hk14
 have:=hw15.1
 refine ie (sr 15 rfl (zrl 5 10 [1,2] [(36,iv f.cursor.row),(38,iv rRow)] ?_))
 refine ix rfl (I9.pure rfl) ?_
 refine zrl 5 4 [1,2] [(42,iv f.cursor.col),(44,iv rCol)] ?_
 refine ix rfl (I9.pure rfl) ?_
 refine I7 3 0 [0] (fun b17=>[(8,pt b17 0)]) (fun b17=>(bx b17 (L7 (⟨(IntKind.i64.wrap (f.cursor.row - rRow)),(IntKind.i64.wrap (f.cursor.col - rCol))⟩:Plc)) 24::bx b6 (A0 ({f with cols:=rCols}) ⟨va r12.q,y0.length,r12.k⟩) 106::bx b1 (A0 f ⟨fQ,fR.length,fK⟩) 26::bx b2 [iv rRow,iv rCol,iv rRows,iv rCols] 61::bx b3 (A0 FrmC.zero ⟨none,0,0⟩) 26::(vo C4 69 r12 rs13)++([]))) (fun b17=>?_)
 refine ie (A3 (sr 23 rfl (zrl 4 19 [0] [(50,bv (decide ((0:Int)≤(IntKind.i64.wrap (f.cursor.row - rRow)))))] ?_)))
 refine zid 6 13 50 56 (decide ((IntKind.i64.wrap (f.cursor.row - rRow))<rRows)) (fun g18 g18p=>?_) ?_
 ·refine zrl 6 0 [0,3] [(56,bv (decide ((IntKind.i64.wrap (f.cursor.row - rRow))<rRows)))] ?_
  exact A1 (H1 2 50 56 g18 A2.refl (mc [[bx b17 (L7 (⟨(IntKind.i64.wrap (f.cursor.row - rRow)),(IntKind.i64.wrap (f.cursor.col - rCol))⟩:Plc)) 24],[bx b6 (A0 ({f with cols:=rCols}) ⟨va r12.q,y0.length,r12.k⟩) 106],[bx b1 (A0 f ⟨fQ,fR.length,fK⟩) 26],[bx b2 [iv rRow,iv rCol,iv rRows,iv rCols] 61],[bx b3 (A0 FrmC.zero ⟨none,0,0⟩) 26],vo C4 69 r12 rs13] [true,true,true,true,true,true] rfl (by first|rfl|(simp only [List.length_set]<;>rfl))) rfl rfl rfl rfl rfl)
 refine ip' 1 12 [(57,bv ((decide ((0:Int)≤(IntKind.i64.wrap (f.cursor.row - rRow))))&&(decide ((IntKind.i64.wrap (f.cursor.row - rRow))<rRows))))] ?_
 refine zia 4 8 57 61 (decide ((0:Int)≤(IntKind.i64.wrap (f.cursor.col - rCol)))) (fun g19=>?_) ?_
 ·have g19p:((0:Int)≤(IntKind.i64.wrap (f.cursor.row - rRow)))∧((IntKind.i64.wrap (f.cursor.row - rRow))<rRows):=by simpa using g19
  refine zrl 4 0 [0] [(61,bv (decide ((0:Int)≤(IntKind.i64.wrap (f.cursor.col - rCol)))))] ?_
  exact A1 (H1 2 57 61 g19 A2.refl (mc [[bx b17 (L7 (⟨(IntKind.i64.wrap (f.cursor.row - rRow)),(IntKind.i64.wrap (f.cursor.col - rCol))⟩:Plc)) 24],[bx b6 (A0 ({f with cols:=rCols}) ⟨va r12.q,y0.length,r12.k⟩) 106],[bx b1 (A0 f ⟨fQ,fR.length,fK⟩) 26],[bx b2 [iv rRow,iv rCol,iv rRows,iv rCols] 61],[bx b3 (A0 FrmC.zero ⟨none,0,0⟩) 26],vo C4 69 r12 rs13] [true,true,true,true,true,true] rfl (by first|rfl|(simp only [List.length_set]<;>rfl))) rfl rfl rfl rfl rfl)
 refine ip' 1 7 [(62,bv (((decide ((0:Int)≤(IntKind.i64.wrap (f.cursor.row - rRow))))&&(decide ((IntKind.i64.wrap (f.cursor.row - rRow))<rRows)))&&(decide ((0:Int)≤(IntKind.i64.wrap (f.cursor.col - rCol))))))] ?_
 refine zia 6 1 62 68 (decide ((IntKind.i64.wrap (f.cursor.col - rCol))<rCols)) (fun g20=>?_) ?_
 ·have g20p:(((0:Int)≤(IntKind.i64.wrap (f.cursor.row - rRow)))∧((IntKind.i64.wrap (f.cursor.row - rRow))<rRows))∧((0:Int)≤(IntKind.i64.wrap (f.cursor.col - rCol))):=by simpa using g20
  refine zrl 6 0 [0,3] [(68,bv (decide ((IntKind.i64.wrap (f.cursor.col - rCol))<rCols)))] ?_
  exact A1 (H1 2 62 68 g20 A2.refl (mc [[bx b17 (L7 (⟨(IntKind.i64.wrap (f.cursor.row - rRow)),(IntKind.i64.wrap (f.cursor.col - rCol))⟩:Plc)) 24],[bx b6 (A0 ({f with cols:=rCols}) ⟨va r12.q,y0.length,r12.k⟩) 106],[bx b1 (A0 f ⟨fQ,fR.length,fK⟩) 26],[bx b2 [iv rRow,iv rCol,iv rRows,iv rCols] 61],[bx b3 (A0 FrmC.zero ⟨none,0,0⟩) 26],vo C4 69 r12 rs13] [true,true,true,true,true,true] rfl (by first|rfl|(simp only [List.length_set]<;>rfl))) rfl rfl rfl rfl rfl)
 refine ip' 1 0 [(9,bv ((((decide ((0:Int)≤(IntKind.i64.wrap (f.cursor.row - rRow))))&&(decide ((IntKind.i64.wrap (f.cursor.row - rRow))<rRows)))&&(decide ((0:Int)≤(IntKind.i64.wrap (f.cursor.col - rCol)))))&&(decide ((IntKind.i64.wrap (f.cursor.col - rCol))<rCols))))] ?_
 refine ie (sr 1 rfl (ip' 1 0 [(69,bv ((((decide ((0:Int)≤(IntKind.i64.wrap (f.cursor.row - rRow))))&&(decide ((IntKind.i64.wrap (f.cursor.row - rRow))<rRows)))&&(decide ((0:Int)≤(IntKind.i64.wrap (f.cursor.col - rCol)))))&&(decide ((IntKind.i64.wrap (f.cursor.col - rCol))<rCols))))] ?_))
 refine ie ?_
 refine zjb rfl hR ?_ ?_<;>clear hR<;>intro hR h21
 ·have h21p:((((0:Int)≤(IntKind.i64.wrap (f.cursor.row - rRow)))∧((IntKind.i64.wrap (f.cursor.row - rRow))<rRows))∧((0:Int)≤(IntKind.i64.wrap (f.cursor.col - rCol))))∧((IntKind.i64.wrap (f.cursor.col - rCol))<rCols):=by simpa using h21
  refine A5 4 rfl (zrg 4 0 [0,1] [] (bx b17 (L7 (⟨(IntKind.i64.wrap (f.cursor.row - rRow)),(IntKind.i64.wrap (f.cursor.col - rCol))⟩:Plc)) 24::bx b6 (A0 ({f with cols:=rCols,cursor:=(⟨(IntKind.i64.wrap (f.cursor.row - rRow)),(IntKind.i64.wrap (f.cursor.col - rCol))⟩:Plc)}) ⟨va r12.q,y0.length,r12.k⟩) 106::bx b1 (A0 f ⟨fQ,fR.length,fK⟩) 26::bx b2 [iv rRow,iv rCol,iv rRows,iv rCols] 61::bx b3 (A0 FrmC.zero ⟨none,0,0⟩) 26::(vo C4 69 r12 rs13)++([])) ?_)
  refine A1 (nx (sr 4 rfl (zrg 4 0 [1,4] [(5,iv 0)] (bx b17 (L7 (⟨(IntKind.i64.wrap (f.cursor.row - rRow)),(IntKind.i64.wrap (f.cursor.col - rCol))⟩:Plc)) 24::bx b6 (A0 ({f with cols:=rCols,cursor:=(⟨(IntKind.i64.wrap (f.cursor.row - rRow)),(IntKind.i64.wrap (f.cursor.col - rCol))⟩:Plc)}) ⟨va r12.q,y0.length,r12.k⟩) 106::bx b1 (A0 f ⟨fQ,fR.length,fK⟩) 26::bx b2 [iv rRow,iv rCol,iv rRows,iv rCols] 61::bx b3 (A0 ({f with cols:=rCols,cursor:=(⟨(IntKind.i64.wrap (f.cursor.row - rRow)),(IntKind.i64.wrap (f.cursor.col - rCol))⟩:Plc)}) ⟨va r12.q,y0.length,r12.k⟩) 26::(vo C4 69 r12 rs13)++([])) ?_)))
  subst hR
  refine ie (A7 ?_)
  exact zer hr hD (V5 rfl (I1 (us:=A0 ({f with cols:=rCols,cursor:=(⟨(IntKind.i64.wrap (f.cursor.row - rRow)),(IntKind.i64.wrap (f.cursor.col - rCol))⟩:Plc)}) ⟨va r12.q,y0.length,r12.k⟩) A7f rfl 4 rfl rfl rfl) (B1 rfl)) ⟨(r12,rs13),⟨hk14,hw15⟩⟩ (mc [[bx b17 (L7 (⟨(IntKind.i64.wrap (f.cursor.row - rRow)),(IntKind.i64.wrap (f.cursor.col - rCol))⟩:Plc)) 24],[bx b6 (A0 ({f with cols:=rCols,cursor:=(⟨(IntKind.i64.wrap (f.cursor.row - rRow)),(IntKind.i64.wrap (f.cursor.col - rCol))⟩:Plc)}) ⟨va r12.q,y0.length,r12.k⟩) 106],[bx b1 (A0 f ⟨fQ,fR.length,fK⟩) 26],[bx b2 [iv rRow,iv rCol,iv rRows,iv rCols] 61],[bx b3 (A0 ({f with cols:=rCols,cursor:=(⟨(IntKind.i64.wrap (f.cursor.row - rRow)),(IntKind.i64.wrap (f.cursor.col - rCol))⟩:Plc)}) ⟨va r12.q,y0.length,r12.k⟩) 26],vo C4 69 r12 rs13] [false,false,false,false,false,true] rfl (by first|rfl|(simp only [List.length_set]<;>rfl))) (A2.con1 (B5 0 rfl) fn0)
 have h21p:¬ (((((0:Int)≤(IntKind.i64.wrap (f.cursor.row - rRow)))∧((IntKind.i64.wrap (f.cursor.row - rRow))<rRows))∧((0:Int)≤(IntKind.i64.wrap (f.cursor.col - rCol))))∧((IntKind.i64.wrap (f.cursor.col - rCol))<rCols)):=by first|simpa using h21|(simp at h21 ⊢;omega)
 refine A5 7 rfl (zrg 7 0 [1,1] [] (bx b17 (L7 (⟨(IntKind.i64.wrap (f.cursor.row - rRow)),(IntKind.i64.wrap (f.cursor.col - rCol))⟩:Plc)) 24::bx b6 (A0 ({f with cols:=rCols,cursor:=Plc.zero,visible:=false}) ⟨va r12.q,y0.length,r12.k⟩) 106::bx b1 (A0 f ⟨fQ,fR.length,fK⟩) 26::bx b2 [iv rRow,iv rCol,iv rRows,iv rCols] 61::bx b3 (A0 FrmC.zero ⟨none,0,0⟩) 26::(vo C4 69 r12 rs13)++([])) ?_)
 refine A1 (nx (sr 4 rfl (zrg 4 0 [1,4] [(5,iv 0)] (bx b17 (L7 (⟨(IntKind.i64.wrap (f.cursor.row - rRow)),(IntKind.i64.wrap (f.cursor.col - rCol))⟩:Plc)) 24::bx b6 (A0 ({f with cols:=rCols,cursor:=Plc.zero,visible:=false}) ⟨va r12.q,y0.length,r12.k⟩) 106::bx b1 (A0 f ⟨fQ,fR.length,fK⟩) 26::bx b2 [iv rRow,iv rCol,iv rRows,iv rCols] 61::bx b3 (A0 ({f with cols:=rCols,cursor:=Plc.zero,visible:=false}) ⟨va r12.q,y0.length,r12.k⟩) 26::(vo C4 69 r12 rs13)++([])) ?_)))
 subst hR
 refine ie (A7 ?_)
 exact zer hr hD (V5 rfl (I1 (us:=A0 ({f with cols:=rCols,cursor:=Plc.zero,visible:=false}) ⟨va r12.q,y0.length,r12.k⟩) A7f rfl 4 rfl rfl rfl) (B1 rfl)) ⟨(r12,rs13),⟨hk14,hw15⟩⟩ (mc [[bx b17 (L7 (⟨(IntKind.i64.wrap (f.cursor.row - rRow)),(IntKind.i64.wrap (f.cursor.col - rCol))⟩:Plc)) 24],[bx b6 (A0 ({f with cols:=rCols,cursor:=Plc.zero,visible:=false}) ⟨va r12.q,y0.length,r12.k⟩) 106],[bx b1 (A0 f ⟨fQ,fR.length,fK⟩) 26],[bx b2 [iv rRow,iv rCol,iv rRows,iv rCols] 61],[bx b3 (A0 ({f with cols:=rCols,cursor:=Plc.zero,visible:=false}) ⟨va r12.q,y0.length,r12.k⟩) 26],vo C4 69 r12 rs13] [false,false,false,false,false,true] rfl (by first|rfl|(simp only [List.length_set]<;>rfl))) (A2.con1 (B5 0 rfl) fn0)
end Go.Proofs.YthcjfkljekdioaaGreatDoor
set_option linter.unusedVariables false
set_option linter.unusedSimpArgs false
set_option linter.unnecessarySimpa false
set_option maxRecDepth 100000
namespace Go.Proofs.YthcjfkljekdioaaGreatDoor
open Go Go.Fen
theorem C7w:Ty Tryz.prog 22 1 false:=⟨by kernel_rfl⟩
def G1 (n:Nat):List Cel :=
 (bif (decide ((0:Int)<(n:Int))) then ([]:List Cel) else ([]:List Cel))
theorem W8 (n:Nat):G1 n=[]:=by
 unfold G1;cases decide ((0:Int)<(n:Int))<;>rfl
theorem A3g (n:Nat) (hn:n≤1000000) (R:List Cel) (hR:G1 n=R):Con Tryz.prog 101 [.slice none 0 0,iv (n:Int)] [] [] ({r:VR // VOk 12 R.length r}) (fun x=>.slice (va x.1.q) R.length x.1.k) (fun x=>((vo B2 72 x.1 R)++([]))) (fun x=>[]):=by
 refine zco Tryz.func101 [(0,.slice none 0 0),(1,iv (n:Int))] fun X hX hr hD=>?_
 replace hR:=(G1.eq_1 ..).symm.trans hR
 refine sr 1 rfl (ip' 1 0 [] ?_)
 refine ie (A3 (sr 2 rfl (ip' 2 0 [(6,bv (decide ((n:Int)<0)))] ?_)))
 refine ie (S2 rfl (fun h1=>?_) (fun h1=>?_))
 ·have h1p:(n:Int)<0:=by simpa using h1
  exfalso;omega
 have h1p:¬ ((n:Int)<0):=by simpa using h1
 refine A4 (nx (A3 (sr 8 rfl (ip' 2 6 [(8,iv (n:Int)),(9,.slice none 0 0)] ?_))))
 refine ix rfl (C5s S9 rfl rfl rfl rfl rfl) ?_
 refine ip' 2 3 [(12,iv 0)] ?_
 refine ix rfl (Q0 (c:=0) rfl rfl rfl rfl (by decide)) ?_
 refine ix rfl (Q0 (c:=(n:Int)) rfl rfl rfl (by omega) (by omega)) ?_
 refine ip' 1 0 [(1,iv (n:Int))] ?_
 refine ie (sr 2 rfl (ip' 2 0 [(16,bv (decide ((0:Int)<(n:Int))))] ?_))
 refine ie ?_
 refine zjd rfl hR ?_ ?_<;>clear hR<;>intro hR h2 h2p
 ·refine A5 10 rfl (ip' 2 8 [(17,.slice none 0 0),(18,.slice none 0 0)] ?_)
  refine ix rfl (C5s S9 rfl rfl rfl rfl rfl) ?_
  refine ix rfl (A6r S9 rfl rfl 0 0 0 A0d (U6 rfl rfl) A0d (by decide) (by decide) (by decide) (n':=0) rfl rfl) ?_
  refine ip' 1 5 [(21,iv (n:Int))] ?_
  refine it rfl (C0i (f:=B2) (m:=n) C6c Tryz.underlying3 rfl rfl rfl rfl rfl (rfl) (by omega) (by first|omega|(simp only [List.length_cons,List.length_nil,List.length_append,List.length_take,List.length_drop];omega)) (by first|omega|(simp only [List.length_cons,List.length_nil,List.length_append,List.length_take,List.length_drop];omega))) fun ⟨r3,hr4,hm5⟩=>?_
  have:([]:List Cel).length=0:=rfl
  refine ip' 2 2 [(24,iv 0)] ?_
  refine ix rfl (A7j (n':=0) S9 rfl rfl 0 r3.k (U6 rfl rfl) A0d (by omega) (by omega) rfl rfl) ?_
  have:([]:List Cel).length=0:=rfl
  refine ip' 1 0 [(0,.slice (va r3.q) 0 r3.k)] ?_
  refine A1 (nx (sr 2 rfl (ip' 2 0 [(4,.slice (va r3.q) 0 r3.k)] ?_)))
  subst hR
  refine ie (A7 ?_)
  exact zer hr hD (P3 rfl (B1 rfl)) ⟨r3,hr4⟩ (mc [vo B2 72 r3 ([]:List Cel)] [true] rfl (by first|rfl|(simp only [List.length_set]<;>rfl))) fn0
 refine A4 (nx (sr 2 rfl (ip' 2 0 [(4,.slice none 0 0)] ?_)))
 subst hR
 refine ie (A7 ?_)
 exact zer hr hD (P3 rfl (B1 rfl)) ⟨VR.nil,VOk.nil⟩ (mc [vo B2 72 VR.nil ([]:List Cel)] [true] rfl (by first|rfl|(simp only [List.length_set]<;>rfl))) fn0
def F6:List (List Cel)→List Cel→Nat→List Cel
 | [],newslice,t27=>newslice
 | hd_l1::tl_l1,newslice,t27=>F6 tl_l1 (newslice++hd_l1) (t27+1)
def F7 (slices:List (List Cel)):List (List Cel)→Nat→Nat→List Cel
 | [],size,t11=>F6 slices (G1 size) 0
 | hd_l0::tl_l0,size,t11=>F7 slices tl_l0 (size+hd_l0.length) (t11+1)
def M4 (slices:List (List Cel)):List Cel :=
 F7 slices slices 0 0
theorem B2c:∀ (ls:List (List Cel)) (acc:List Cel) (t:Nat),F6 ls acc t=acc++ls.flatten
 | [],acc,t=>by simp [F6]
 | x::ls,acc,t=>by simp [F6,B2c ls]
theorem B3n (s:List (List Cel)):∀ (ls:List (List Cel)) (z t:Nat),F7 s ls z t=s.flatten
 | [],z,t=>by simp [F7,B2c,W8]
 | x::ls,z,t=>by simp [F7,B3n s ls]
theorem W0 (s:List (List Cel)):M4 s=s.flatten:=B3n s s 0 0
theorem A2p (slices:List (List Cel)) (slicesq:Option Addr) (slicesrs:List Slc) (slicesk:Nat) (hrowsslicesrs:C7 slicesrs slices) (hlslices:slices.length≤9223372036854775807) (hcslices:slices.length≤slicesk) (hs:slices.length≤1000) (hb:∀ i,i<slices.length→(slices.getD i []).length≤1000) (R:List Cel) (hR:M4 slices=R):Con Tryz.prog 63 [.slice slicesq slices.length slicesk] [] [sl C4 slicesq slicesrs,G5 B2 slicesrs slices] ({r:VR // VOk 12 R.length r}) (fun x=>.slice (va x.1.q) R.length x.1.k) (fun x=>((vo B2 72 x.1 R)++([]))) (fun x=>[]):=by
 refine zco Tryz.func63 [(0,.slice slicesq slices.length slicesk)] fun X hX hr hD=>?_
 replace hR:=(M4.eq_1 ..).symm.trans hR
 have:=hrowsslicesrs.1
 refine sr 1 rfl (ip' 1 0 [] ?_)
 refine ie (sr 1 rfl (ip' 1 0 [(3,iv 0)] ?_))
 refine ie (A3 (sr 3 rfl (ip' 3 0 [(9,.slice slicesq slices.length slicesk),(10,iv (slices.length:Int)),(11,iv 0)] ?_)))
 refine ie (B0 (C9d (fun (size:Nat) (t11:Nat)=>(t11≤slices.length∧F7 slices (slices.drop t11) size t11=R∧size≤1000 * t11,[(0,.slice slicesq slices.length slicesk),(3,iv (size:Int)),(9,.slice slicesq slices.length slicesk),(10,iv (slices.length:Int)),(11,iv (t11:Int))],[],[sl C4 slicesq slicesrs,G5 B2 slicesrs slices],slices.length - t11)) 0 0 ⟨(by omega),hR,(by omega)⟩ (mk [] rfl) A2.refl ?_))
 rintro size t11 ⟨hm1,hR,hz⟩
 refine sr 1 rfl (ip' 1 0 [(12,bv (decide ((t11:Int)<(slices.length:Int))))] ?_)
 refine ie (A3 (S2 rfl (fun h2=>?_) (fun h2=>?_)))
 ·have h2p:(t11:Int)<(slices.length:Int):=by simpa using h2
  rw [U1 [] (show t11<slices.length by omega)] at hR;replace hR:=(F7.eq_2 ..).symm.trans hR
  have:=hb t11 (by omega)
  refine A4 (nx (A3 (B0 (sr 3 rfl (J3 0 rfl (by have:=hrowsslicesrs.1;omega) fun a3 hq4=>?_)))))
  refine H6 (P9 (k:=t11) (d:=(⟨none,0,0⟩:Slc)) hrowsslicesrs 1 rfl (by have:=hrowsslicesrs.1;omega)) ?_
  have:=P8 hrowsslicesrs (k:=t11) (d:=(⟨none,0,0⟩:Slc)) (by have:=hrowsslicesrs.1;omega)
  refine ix rfl (E8 A0k rfl rfl hq4 rfl t11 rfl (by omega)) ?_
  refine ix rfl (F9 (C8 (v:=.slice ((slicesrs.getD t11 (⟨none,0,0⟩:Slc)).q) ((slicesrs.getD t11 (⟨none,0,0⟩:Slc)).n) ((slicesrs.getD t11 (⟨none,0,0⟩:Slc)).k)) (us:=[.slice ((slicesrs.getD t11 (⟨none,0,0⟩:Slc)).q) ((slicesrs.getD t11 (⟨none,0,0⟩:Slc)).n) ((slicesrs.getD t11 (⟨none,0,0⟩:Slc)).k)]) A3e rfl rfl (G0 (c:=C4) (sz:=1) hq4 (fun _=>rfl) 1 rfl (gd (⟨none,0,0⟩:Slc) (by have:=hrowsslicesrs.1;omega))) rfl) (Q7 hrowsslicesrs (by have:=hrowsslicesrs.1;omega))) ?_
  refine ip' 1 0 [(5,.slice ((slicesrs.getD t11 (⟨none,0,0⟩:Slc)).q) ((slices.getD t11 []).length) ((slicesrs.getD t11 (⟨none,0,0⟩:Slc)).k))] ?_
  refine ie (sr 5 rfl (ip' 3 2 [(15,iv (size:Int)),(17,iv ((slices.getD t11 []).length:Int))] ?_))
  refine ix rfl (B4 rfl rfl rfl rfl (by omega)) ?_
  refine ip' 1 0 [(3,iv ((size:Int)+((slices.getD t11 []).length:Int)))] ?_
  refine ie (sr 2 rfl (ip' 2 0 [(20,bv (decide (((size:Int)+((slices.getD t11 []).length:Int))<0)))] ?_))
  refine ie (S2 rfl (fun h5=>?_) (fun h5=>?_))
  ·have h5p:((size:Int)+((slices.getD t11 []).length:Int))<0:=by simpa using h5
   exfalso;omega
  have h5p:¬ (((size:Int)+((slices.getD t11 []).length:Int))<0):=by simpa using h5
  refine A4 (nx (A5 2 rfl (ix rfl (B4 rfl rfl rfl rfl (by omega)) ?_)))
  refine ip' 1 0 [(11,iv ((t11:Int)+1))] ?_
  refine A1 ?_
  exact C9t (z1:=size) (z2:=t11) (size+(slices.getD t11 []).length) (t11+1) ⟨(by omega),hR,(by omega)⟩ (by (try dsimp only);omega) (mk [] rfl) (A2.pick [1,2] rfl)
 have h2p:¬ ((t11:Int)<(slices.length:Int)):=by simpa using h2
 rw [U2 h2p] at hR;replace hR:=(F7.eq_1 ..).symm.trans hR
 refine G2 (nx (sr 3 rfl (ip' 1 2 [(23,iv (size:Int))] ?_)))
 refine it rfl (H2 (L2:=[]) (A3g size (by first|omega|(simp only [List.length_append,List.length_cons,List.length_nil,List.length_take,List.length_drop,List.length_set];omega)) _ rfl) rfl rfl rfl rfl rfl fn0 (List.Perm.refl _) (fun ⟨r6,hk7⟩=>((vo B2 72 r6 (G1 size))++([]))) (fun _=>by first|rfl|simp only [List.append_nil,List.cons_append,List.nil_append,List.append_assoc])) fun ⟨r6,hk7⟩=>?_
 have:=VOk.le hk7
 have:=VOk.cap hk7
 refine ip' 1 0 [(6,.slice (va r6.q) ((G1 size).length) r6.k)] ?_
 refine ie (A3 (sr 3 rfl (ip' 3 0 [(25,.slice slicesq slices.length slicesk),(26,iv (slices.length:Int)),(27,iv 0)] ?_)))
 refine ie (B0 ?_)
 refine D2m (fun (newslice:List Cel) (newslicer:VR) (t27:Nat)=>(t27≤slices.length∧F6 (slices.drop t27) newslice t27=R∧VOk 12 newslice.length newslicer∧newslice.length≤1000 * t27,[(6,.slice (va newslicer.q) newslice.length newslicer.k),(25,.slice slicesq slices.length slicesk),(26,iv (slices.length:Int)),(27,iv (t27:Int))],((vo B2 72 newslicer newslice)++([])),[sl C4 slicesq slicesrs,G5 B2 slicesrs slices],slices.length - t27)) (G1 size) r6 0 ⟨(by omega),hR,hk7,(by rw [W8];simp)⟩ (mc [vo B2 72 r6 (G1 size)] [true] rfl (by first|rfl|(simp only [List.length_set]<;>rfl))) A2.refl ?_
 rintro newslice newslicer t27 ⟨hm8,hR,hoknewslicer,hz2⟩
 have:=VOk.le hoknewslicer
 refine sr 1 rfl (ip' 1 0 [(28,bv (decide ((t27:Int)<(slices.length:Int))))] ?_)
 refine ie (A3 (S2 rfl (fun h9=>?_) (fun h9=>?_)))
 ·have h9p:(t27:Int)<(slices.length:Int):=by simpa using h9
  rw [U1 [] (show t27<slices.length by omega)] at hR;replace hR:=(F6.eq_2 ..).symm.trans hR
  have:=hb t27 (by omega)
  refine A4 (nx (A3 (B0 (sr 3 rfl (J3 0 rfl (by have:=hrowsslicesrs.1;omega) fun a10 hq11=>?_)))))
  refine H6 (P9 (k:=t27) (d:=(⟨none,0,0⟩:Slc)) hrowsslicesrs 1 rfl (by have:=hrowsslicesrs.1;omega)) ?_
  have:=P8 hrowsslicesrs (k:=t27) (d:=(⟨none,0,0⟩:Slc)) (by have:=hrowsslicesrs.1;omega)
  refine ix rfl (E8 A0k rfl rfl hq11 rfl t27 rfl (by omega)) ?_
  refine ix rfl (F9 (C8 (v:=.slice ((slicesrs.getD t27 (⟨none,0,0⟩:Slc)).q) ((slicesrs.getD t27 (⟨none,0,0⟩:Slc)).n) ((slicesrs.getD t27 (⟨none,0,0⟩:Slc)).k)) (us:=[.slice ((slicesrs.getD t27 (⟨none,0,0⟩:Slc)).q) ((slicesrs.getD t27 (⟨none,0,0⟩:Slc)).n) ((slicesrs.getD t27 (⟨none,0,0⟩:Slc)).k)]) A3e rfl rfl (G0 (c:=C4) (sz:=1) hq11 (fun _=>rfl) 1 rfl (gd (⟨none,0,0⟩:Slc) (by have:=hrowsslicesrs.1;omega))) rfl) (Q7 hrowsslicesrs (by have:=hrowsslicesrs.1;omega))) ?_
  refine ip' 1 0 [(8,.slice ((slicesrs.getD t27 (⟨none,0,0⟩:Slc)).q) ((slices.getD t27 []).length) ((slicesrs.getD t27 (⟨none,0,0⟩:Slc)).k))] ?_
  refine ie (A5 4 rfl (ip' 2 2 [(31,.slice (va newslicer.q) newslice.length newslicer.k),(32,.slice ((slicesrs.getD t27 (⟨none,0,0⟩:Slc)).q) ((slices.getD t27 []).length) ((slicesrs.getD t27 (⟨none,0,0⟩:Slc)).k))] ?_))
  refine it rfl (A4o (f:=B2) (r:=newslicer) (xs:=newslice) (ys:=(slices.getD t27 [])) (pre:=[]) (post:=[]) C6c (fun _=>rfl) (fun _=>rfl) rfl rfl rfl rfl rfl rfl rfl rfl (B5 0 rfl) hoknewslicer (by first|omega|(simp only [List.length_cons,List.length_nil,List.length_append,List.length_take,List.length_drop];omega)) (by first|omega|(simp only [List.length_cons,List.length_nil,List.length_append,List.length_take,List.length_drop];omega))) fun ⟨r12,hr13⟩=>?_
  have:=@List.length_append _ newslice (slices.getD t27 [])
  have:=VOk.le hr13
  have:=VOk.cap hr13
  refine ip' 1 0 [(6,.slice (va r12.q) ((newslice++(slices.getD t27 [])).length) r12.k)] ?_
  refine A1 (nx (A5 2 rfl (ix rfl (B4 rfl rfl rfl rfl (by omega)) ?_)))
  refine ip' 1 0 [(27,iv ((t27:Int)+1))] ?_
  refine A1 ?_
  exact D0u (z1:=newslice) (z2:=newslicer) (z3:=t27) (newslice++(slices.getD t27 [])) r12 (t27+1) ⟨(by omega),hR,hr13,(by omega)⟩ (by (try dsimp only);omega) (mc [vo B2 72 r12 (newslice++(slices.getD t27 []))] [true] rfl (by first|rfl|(simp only [List.length_set]<;>rfl))) (A2.pick [1,2] rfl)
 have h9p:¬ ((t27:Int)<(slices.length:Int)):=by simpa using h9
 rw [U2 h9p] at hR;replace hR:=(F6.eq_1 ..).symm.trans hR
 refine G2 (nx (sr 2 rfl (ip' 2 0 [(2,.slice (va newslicer.q) newslice.length newslicer.k)] ?_)))
 subst hR
 refine ie (A7 ?_)
 exact zer hr hD (P3 rfl (B1 rfl)) ⟨newslicer,hoknewslicer⟩ (mc [vo B2 72 newslicer newslice] [true] rfl (by first|rfl|(simp only [List.length_set]<;>rfl))) fn0
def A1f (i:Int) (p1:Plc) (p2:FrmC) (p2Rows:List (List Cel)) (p3:FrmC) (p3Rows:List (List Cel)):List Cel :=
 (bif ((decide ((i - p1.row)<0))||(decide ((p2Rows.length:Int)≤(i - p1.row)))) then (p3Rows.getD ((i).toNat) []) else (F1 (M4 ([((p3Rows.getD ((i).toNat) []).take ((p1.col).toNat)),(p2Rows.getD ((i).toNat - (p1.row).toNat) []),((p3Rows.getD ((i).toNat) []).drop ((p1.col).toNat+(p2.cols).toNat))]:List (List Cel))) fun (y2:List Cel)=>y2))
theorem C8d {i:Int} {p:Plc} {g:FrmC} {gr:List (List Cel)} {f:FrmC} {fr:List (List Cel)} (h:C8h i p g gr f fr):(A1f i p g gr f fr).length≤100:=by
 obtain ⟨⟨h1,h2,h3⟩,⟨h1',h2',h3'⟩,h4,h5,h6,h7,h8,h9,h10⟩:=h
 have hf:=h3 i.toNat (by omega)
 unfold A1f F1
 by_cases c1:i - p.row<0
 ·rw [decide_eq_true c1];show (fr.getD i.toNat []).length≤100;omega
 ·by_cases c2:(gr.length:Int)≤i - p.row
  ·rw [decide_eq_true c2,Bool.or_true];show (fr.getD i.toNat []).length≤100;omega
  ·have hg:=h3' (i.toNat - p.row.toNat) (by omega)
   rw [decide_eq_false c1,decide_eq_false c2]
   simp only [Bool.or_self,cond_false,W0,List.flatten_cons,List.flatten_nil,List.append_nil,List.length_append,List.length_take,List.length_drop];omega
theorem B7r (i:Int) (p1:Plc) (p2:FrmC) (p2Rows:List (List Cel)) (p3:FrmC) (p3Rows:List (List Cel)) (p1b:Nat) (p2b:Nat) (p2Rowsq:Option Addr) (p2Rowsrs:List Slc) (p2Rowsk:Nat) (p3b:Nat) (p3Rowsq:Option Addr) (p3Rowsrs:List Slc) (p3Rowsk:Nat) (hrowsp2Rowsrs:C7 p2Rowsrs p2Rows) (hlp2Rows:p2Rows.length≤9223372036854775807) (hcp2Rows:p2Rows.length≤p2Rowsk) (hrowsp3Rowsrs:C7 p3Rowsrs p3Rows) (hlp3Rows:p3Rows.length≤9223372036854775807) (hcp3Rows:p3Rows.length≤p3Rowsk) (hq:C8h i p1 p2 p2Rows p3 p3Rows) (R:List Cel) (hR:A1f i p1 p2 p2Rows p3 p3Rows=R):Con Tryz.prog 62 [iv i,pt p1b 0,pt p2b 0,pt p3b 0] [bx p1b (L7 p1) 24,bx p2b (A0 p2 ⟨p2Rowsq,p2Rows.length,p2Rowsk⟩) 26,bx p3b (A0 p3 ⟨p3Rowsq,p3Rows.length,p3Rowsk⟩) 26] [sl C4 p2Rowsq p2Rowsrs,G5 B2 p2Rowsrs p2Rows,sl C4 p3Rowsq p3Rowsrs,G5 B2 p3Rowsrs p3Rows] ({t:Option Addr×Nat // R.length≤t.2∧R.length≤9223372036854775807}) (fun x=>.slice x.1.1 R.length x.1.2) (fun x=>[bx p1b (L7 p1) 24,bx p2b (A0 p2 ⟨p2Rowsq,p2Rows.length,p2Rowsk⟩) 26,bx p3b (A0 p3 ⟨p3Rowsq,p3Rows.length,p3Rowsk⟩) 26]) (fun x=>[sl B2 x.1.1 R]):=by
 refine zco Tryz.func62 [(0,iv i),(1,pt p1b 0),(2,pt p2b 0),(3,pt p3b 0)] fun X hX hr hD=>?_
 replace hR:=(A1f.eq_1 ..).symm.trans hR
 have:=hrowsp2Rowsrs.1
 have:=hrowsp3Rowsrs.1
 obtain ⟨⟨hq1,hq2,hq3⟩,⟨hq1',hq2',hq3'⟩,hq4,hq5,hq6,hq7,hq8,hq9,hq10⟩:=hq
 have hqr:=hq3 i.toNat (by omega)
 refine sr 1 rfl (ip' 1 0 [] ?_)
 refine ie (sr 5 rfl (zrl 3 2 [0] [(7,iv i),(9,iv p1.row)] ?_))
 refine ix rfl (Q0 rfl rfl rfl rfl (by omega)) ?_
 refine ip' 1 0 [(6,iv (i - p1.row))] ?_
 refine ie (A3 (sr 9 rfl (ip' 3 6 [(13,bv (decide ((i - p1.row)<0)))] ?_)))
 refine zir 6 0 13 19 (decide ((p2Rows.length:Int)≤(i - p1.row))) (fun g1 g1p=>?_) ?_
 ·refine zrl 6 0 [1] [(19,bv (decide ((p2Rows.length:Int)≤(i - p1.row))))] ?_
  exact zai 2 13 19 g1
 refine ie ?_
 refine zjo rfl hR ?_ ?_<;>clear hR<;>intro hR h2 h2p
 ·refine sr 6 rfl (zrl 3 3 [2] [(21,.slice p3Rowsq p3Rows.length p3Rowsk),(22,iv i)] ?_)
  refine J3 2 rfl (by have:=hrowsp3Rowsrs.1;omega) fun a3 hq4=>?_
  refine H6 (P9 (k:=(i).toNat) (d:=(⟨none,0,0⟩:Slc)) hrowsp3Rowsrs 3 rfl (by have:=hrowsp3Rowsrs.1;omega)) ?_
  have:=P8 hrowsp3Rowsrs (k:=(i).toNat) (d:=(⟨none,0,0⟩:Slc)) (by have:=hrowsp3Rowsrs.1;omega)
  refine ix rfl (E8 A0k rfl rfl hq4 rfl ((i).toNat) (by omega) (by omega)) ?_
  refine ix rfl (F9 (C8 (v:=.slice ((p3Rowsrs.getD ((i).toNat) (⟨none,0,0⟩:Slc)).q) ((p3Rowsrs.getD ((i).toNat) (⟨none,0,0⟩:Slc)).n) ((p3Rowsrs.getD ((i).toNat) (⟨none,0,0⟩:Slc)).k)) (us:=[.slice ((p3Rowsrs.getD ((i).toNat) (⟨none,0,0⟩:Slc)).q) ((p3Rowsrs.getD ((i).toNat) (⟨none,0,0⟩:Slc)).n) ((p3Rowsrs.getD ((i).toNat) (⟨none,0,0⟩:Slc)).k)]) A3e rfl rfl (G0 (c:=C4) (sz:=1) hq4 (fun _=>rfl) 3 rfl (gd (⟨none,0,0⟩:Slc) (by have:=hrowsp3Rowsrs.1;omega))) rfl) (Q7 hrowsp3Rowsrs (by have:=hrowsp3Rowsrs.1;omega))) ?_
  refine ip' 1 0 [(5,.slice ((p3Rowsrs.getD ((i).toNat) (⟨none,0,0⟩:Slc)).q) ((p3Rows.getD ((i).toNat) []).length) ((p3Rowsrs.getD ((i).toNat) (⟨none,0,0⟩:Slc)).k))] ?_
  subst hR
  refine ie (A7 ?_)
  exact zer hr hD (P3 rfl (B1 rfl)) (zq ((p3Rowsrs.getD ((i).toNat) (⟨none,0,0⟩:Slc)).q) ((p3Rowsrs.getD ((i).toNat) (⟨none,0,0⟩:Slc)).k)) (mk [true,true,true] rfl) (A2.con1 (B5 0 rfl) fn0)
 have hqg:=hq3' (i.toNat - p1.row.toNat) (by omega)
 refine A4 (nx (B2o (P9 (k:=(i).toNat) (d:=(⟨none,0,0⟩:Slc)) hrowsp3Rowsrs 3 rfl (by have:=hrowsp3Rowsrs.1;omega)) ?_))
 have:=P8 hrowsp3Rowsrs (k:=(i).toNat) (d:=(⟨none,0,0⟩:Slc)) (by have:=hrowsp3Rowsrs.1;omega)
 refine B2o (C0u (B5 0 rfl) ((p1.col).toNat)) ?_
 refine B2o (P9 (k:=((i).toNat - (p1.row).toNat)) (d:=(⟨none,0,0⟩:Slc)) hrowsp2Rowsrs 3 rfl (by have:=hrowsp2Rowsrs.1;omega)) ?_
 have:=P8 hrowsp2Rowsrs (k:=((i).toNat - (p1.row).toNat)) (d:=(⟨none,0,0⟩:Slc)) (by have:=hrowsp2Rowsrs.1;omega)
 refine B2o (C1i (c:=B2) (sz:=12) (xs:=(p3Rows.getD ((i).toNat) [])) (B5 2 rfl) ((p1.col).toNat+(p2.cols).toNat) ((p3Rowsrs.getD ((i).toNat) (⟨none,0,0⟩:Slc)).k) (fun _=>rfl) (by omega) (by omega)) ?_
 refine sh 27 [(27,[bx p1b (L7 p1) 24]),(27,[bx p2b (A0 p2 ⟨p2Rowsq,p2Rows.length,p2Rowsk⟩) 26]),(27,[bx p3b (A0 p3 ⟨p3Rowsq,p3Rows.length,p3Rowsk⟩) 26])] [sl B2 (A6d ((p3Rowsrs.getD ((i).toNat) (⟨none,0,0⟩:Slc)).q) ((p1.col).toNat+(p2.cols).toNat) 12 ((p3Rowsrs.getD ((i).toNat) (⟨none,0,0⟩:Slc)).k)) ((p3Rows.getD ((i).toNat) []).drop ((p1.col).toNat+(p2.cols).toNat)),sl B2 ((p2Rowsrs.getD ((i).toNat - (p1.row).toNat) (⟨none,0,0⟩:Slc)).q) (p2Rows.getD ((i).toNat - (p1.row).toNat) []),sl B2 ((p3Rowsrs.getD ((i).toNat) (⟨none,0,0⟩:Slc)).q) ((p3Rows.getD ((i).toNat) []).take ((p1.col).toNat)),sl B2 ((p3Rowsrs.getD ((i).toNat) (⟨none,0,0⟩:Slc)).q) (p3Rows.getD ((i).toNat) []),sl C4 p2Rowsq p2Rowsrs,G5 B2 p2Rowsrs p2Rows,sl C4 p3Rowsq p3Rowsrs,G5 B2 p3Rowsrs p3Rows] [bx p1b (L7 p1) 24,bx p2b (A0 p2 ⟨p2Rowsq,p2Rows.length,p2Rowsk⟩) 26,bx p3b (A0 p3 ⟨p3Rowsq,p3Rows.length,p3Rowsk⟩) 26] (zml 27 0) (by kernel_rfl) rfl (by kernel_rfl) (by kernel_rfl) (by kernel_rfl) (mk [true,true,true] rfl) A2.refl ?_
 refine zhp [0,2,5,8,10,13,15,18,20] 18 (zml 27 1352997) [(25,pt p3b 1),(27,iv i),(30,pt p1b 1),(33,pt p2b 1),(35,iv (i - p1.row)),(38,pt p3b 1),(40,iv i),(43,pt p1b 1),(45,pt p2b 0)] ?_
 refine zhl 1 [bx p1b (L7 p1) 24,bx p2b (A0 p2 ⟨p2Rowsq,p2Rows.length,p2Rowsk⟩) 26,bx p3b (A0 p3 ⟨p3Rowsq,p3Rows.length,p3Rowsk⟩) 26] (zml 27 1352999) rfl (D4 (v:=.slice p3Rowsq p3Rows.length p3Rowsk) C7w rfl rfl 2 rfl rfl) ?_
 refine C1h 6 rfl (by have:=hrowsp3Rowsrs.1;omega) fun a5 hq6=>?_
 refine zhk 3 (zml 27 1353007) rfl (E8 A0k rfl rfl hq6 rfl ((i).toNat) (by omega) (by omega)) ?_
 refine zhk 4 (zml 27 1353023) rfl (F9 (C8 (v:=.slice ((p3Rowsrs.getD ((i).toNat) (⟨none,0,0⟩:Slc)).q) ((p3Rowsrs.getD ((i).toNat) (⟨none,0,0⟩:Slc)).n) ((p3Rowsrs.getD ((i).toNat) (⟨none,0,0⟩:Slc)).k)) (us:=[.slice ((p3Rowsrs.getD ((i).toNat) (⟨none,0,0⟩:Slc)).q) ((p3Rowsrs.getD ((i).toNat) (⟨none,0,0⟩:Slc)).n) ((p3Rowsrs.getD ((i).toNat) (⟨none,0,0⟩:Slc)).k)]) A3e rfl rfl (G0 (c:=C4) (sz:=1) hq6 (fun _=>rfl) 6 rfl (gd (⟨none,0,0⟩:Slc) (by have:=hrowsp3Rowsrs.1;omega))) rfl) (Q7 hrowsp3Rowsrs (by have:=hrowsp3Rowsrs.1;omega))) ?_
 refine zhl 6 [bx p1b (L7 p1) 24,bx p2b (A0 p2 ⟨p2Rowsq,p2Rows.length,p2Rowsk⟩) 26,bx p3b (A0 p3 ⟨p3Rowsq,p3Rows.length,p3Rowsk⟩) 26] (zml 27 1353087) rfl (D4 (v:=iv p1.col) ty3 rfl rfl 0 rfl rfl) ?_
 refine zhk 7 (zml 27 1353215) rfl (A7j (n':=((p3Rows.getD ((i).toNat) []).take ((p1.col).toNat)).length) S9 rfl rfl ((p1.col).toNat) ((p3Rowsrs.getD ((i).toNat) (⟨none,0,0⟩:Slc)).k) (U6 rfl (by omega)) A0d (by omega) (by omega) (by first|rfl|omega|(simp only [List.length_take,List.length_drop];omega)|(simp;done)) rfl) ?_
 have:=@List.length_take _ ((p1.col).toNat) (p3Rows.getD ((i).toNat) [])
 refine zhl 9 [bx p1b (L7 p1) 24,bx p2b (A0 p2 ⟨p2Rowsq,p2Rows.length,p2Rowsk⟩) 26,bx p3b (A0 p3 ⟨p3Rowsq,p3Rows.length,p3Rowsk⟩) 26] (zml 27 1353727) rfl (D4 (v:=.slice p2Rowsq p2Rows.length p2Rowsk) C7w rfl rfl 1 rfl rfl) ?_
 refine C1h 4 rfl (by have:=hrowsp2Rowsrs.1;omega) fun a7 hq8=>?_
 refine zhk 11 (zml 27 1355775) rfl (E8 A0k rfl rfl hq8 rfl ((i).toNat - (p1.row).toNat) (by omega) (by omega)) ?_
 refine zhk 12 (zml 27 1359871) rfl (F9 (C8 (v:=.slice ((p2Rowsrs.getD ((i).toNat - (p1.row).toNat) (⟨none,0,0⟩:Slc)).q) ((p2Rowsrs.getD ((i).toNat - (p1.row).toNat) (⟨none,0,0⟩:Slc)).n) ((p2Rowsrs.getD ((i).toNat - (p1.row).toNat) (⟨none,0,0⟩:Slc)).k)) (us:=[.slice ((p2Rowsrs.getD ((i).toNat - (p1.row).toNat) (⟨none,0,0⟩:Slc)).q) ((p2Rowsrs.getD ((i).toNat - (p1.row).toNat) (⟨none,0,0⟩:Slc)).n) ((p2Rowsrs.getD ((i).toNat - (p1.row).toNat) (⟨none,0,0⟩:Slc)).k)]) A3e rfl rfl (G0 (c:=C4) (sz:=1) hq8 (fun _=>rfl) 4 rfl (gd (⟨none,0,0⟩:Slc) (by have:=hrowsp2Rowsrs.1;omega))) rfl) (Q7 hrowsp2Rowsrs (by have:=hrowsp2Rowsrs.1;omega))) ?_
 refine zhl 14 [bx p1b (L7 p1) 24,bx p2b (A0 p2 ⟨p2Rowsq,p2Rows.length,p2Rowsk⟩) 26,bx p3b (A0 p3 ⟨p3Rowsq,p3Rows.length,p3Rowsk⟩) 26] (zml 27 1376255) rfl (D4 (v:=.slice p3Rowsq p3Rows.length p3Rowsk) C7w rfl rfl 2 rfl rfl) ?_
 refine zhk 16 (zml 27 1441791) rfl (E8 A0k rfl rfl hq6 rfl ((i).toNat) (by omega) (by omega)) ?_
 refine zhk 17 (zml 27 1572863) rfl (F9 (C8 (v:=.slice ((p3Rowsrs.getD ((i).toNat) (⟨none,0,0⟩:Slc)).q) ((p3Rowsrs.getD ((i).toNat) (⟨none,0,0⟩:Slc)).n) ((p3Rowsrs.getD ((i).toNat) (⟨none,0,0⟩:Slc)).k)) (us:=[.slice ((p3Rowsrs.getD ((i).toNat) (⟨none,0,0⟩:Slc)).q) ((p3Rowsrs.getD ((i).toNat) (⟨none,0,0⟩:Slc)).n) ((p3Rowsrs.getD ((i).toNat) (⟨none,0,0⟩:Slc)).k)]) A3e rfl rfl (G0 (c:=C4) (sz:=1) hq6 (fun _=>rfl) 6 rfl (gd (⟨none,0,0⟩:Slc) (by have:=hrowsp3Rowsrs.1;omega))) rfl) (Q7 hrowsp3Rowsrs (by have:=hrowsp3Rowsrs.1;omega))) ?_
 refine zhl 19 [bx p1b (L7 p1) 24,bx p2b (A0 p2 ⟨p2Rowsq,p2Rows.length,p2Rowsk⟩) 26,bx p3b (A0 p3 ⟨p3Rowsq,p3Rows.length,p3Rowsk⟩) 26] (zml 27 2097151) rfl (D4 (v:=iv p1.col) ty3 rfl rfl 0 rfl rfl) ?_
 refine zhl 21 [bx p1b (L7 p1) 24,bx p2b (A0 p2 ⟨p2Rowsq,p2Rows.length,p2Rowsk⟩) 26,bx p3b (A0 p3 ⟨p3Rowsq,p3Rows.length,p3Rowsk⟩) 26] (zml 27 4194303) rfl (D4 (v:=iv p2.cols) ty3 rfl rfl 1 rfl rfl) ?_
 refine zhk 22 (zml 27 8388607) rfl (B4 rfl rfl rfl rfl (by omega)) ?_
 refine zhk 23 (zml 27 16777215) rfl (A6r (n':=((p3Rows.getD ((i).toNat) []).drop ((p1.col).toNat+(p2.cols).toNat)).length) S9 rfl rfl ((p1.col).toNat+(p2.cols).toNat) ((p3Rows.getD ((i).toNat) []).length) ((p3Rowsrs.getD ((i).toNat) (⟨none,0,0⟩:Slc)).k) (U6 rfl (by omega)) A0d A0d (by omega) (by omega) (by omega) (by first|rfl|omega|(simp only [List.length_take,List.length_drop];omega)|(simp;done)) rfl) ?_
 have:=@List.length_drop _ ((p1.col).toNat+(p2.cols).toNat) (p3Rows.getD ((i).toNat) [])
 refine zho 24 [bx p1b (L7 p1) 24,bx p2b (A0 p2 ⟨p2Rowsq,p2Rows.length,p2Rowsk⟩) 26,bx p3b (A0 p3 ⟨p3Rowsq,p3Rows.length,p3Rowsk⟩) 26] (zml 27 33554431) rfl (E9 (c:=C4) (xs:=([⟨(p3Rowsrs.getD ((i).toNat) (⟨none,0,0⟩:Slc)).q,((p3Rows.getD ((i).toNat) []).take ((p1.col).toNat)).length,(p3Rowsrs.getD ((i).toNat) (⟨none,0,0⟩:Slc)).k⟩,⟨(p2Rowsrs.getD ((i).toNat - (p1.row).toNat) (⟨none,0,0⟩:Slc)).q,(p2Rows.getD ((i).toNat - (p1.row).toNat) []).length,(p2Rowsrs.getD ((i).toNat - (p1.row).toNat) (⟨none,0,0⟩:Slc)).k⟩,⟨(A6d ((p3Rowsrs.getD ((i).toNat) (⟨none,0,0⟩:Slc)).q) ((p1.col).toNat+(p2.cols).toNat) 12 ((p3Rowsrs.getD ((i).toNat) (⟨none,0,0⟩:Slc)).k)),((p3Rows.getD ((i).toNat) []).drop ((p1.col).toNat+(p2.cols).toNat)).length,(((p3Rowsrs.getD ((i).toNat) (⟨none,0,0⟩:Slc)).k) - ((p1.col).toNat+(p2.cols).toNat))⟩]:List Slc)) A0k rfl rfl rfl (by kernel_rfl)) (fun b9=>(mk [true,true,true] rfl)) (fun b9=>(A2.pick [1,2,3,4,5,6,7,8] rfl)) fun b9=>?_
 have hrows10:C7 ([⟨(p3Rowsrs.getD ((i).toNat) (⟨none,0,0⟩:Slc)).q,((p3Rows.getD ((i).toNat) []).take ((p1.col).toNat)).length,(p3Rowsrs.getD ((i).toNat) (⟨none,0,0⟩:Slc)).k⟩,⟨(p2Rowsrs.getD ((i).toNat - (p1.row).toNat) (⟨none,0,0⟩:Slc)).q,(p2Rows.getD ((i).toNat - (p1.row).toNat) []).length,(p2Rowsrs.getD ((i).toNat - (p1.row).toNat) (⟨none,0,0⟩:Slc)).k⟩,⟨(A6d ((p3Rowsrs.getD ((i).toNat) (⟨none,0,0⟩:Slc)).q) ((p1.col).toNat+(p2.cols).toNat) 12 ((p3Rowsrs.getD ((i).toNat) (⟨none,0,0⟩:Slc)).k)),((p3Rows.getD ((i).toNat) []).drop ((p1.col).toNat+(p2.cols).toNat)).length,(((p3Rowsrs.getD ((i).toNat) (⟨none,0,0⟩:Slc)).k) - ((p1.col).toNat+(p2.cols).toNat))⟩]:List Slc) ([((p3Rows.getD ((i).toNat) []).take ((p1.col).toNat)),(p2Rows.getD ((i).toNat - (p1.row).toNat) []),((p3Rows.getD ((i).toNat) []).drop ((p1.col).toNat+(p2.cols).toNat))]:List (List Cel)):=(C7.cons ⟨rfl,(by first|omega|(simp only [List.length_take,List.length_drop,List.length_append,List.length_cons,List.length_nil,List.length_set,List.length_map];omega)|decide),(by first|omega|(simp only [List.length_take,List.length_drop,List.length_append,List.length_cons,List.length_nil,List.length_set,List.length_map];omega)|decide)⟩ (C7.cons ⟨rfl,(by first|omega|(simp only [List.length_take,List.length_drop,List.length_append,List.length_cons,List.length_nil,List.length_set,List.length_map];omega)|decide),(by first|omega|(simp only [List.length_take,List.length_drop,List.length_append,List.length_cons,List.length_nil,List.length_set,List.length_map];omega)|decide)⟩ (C7.cons ⟨rfl,(by first|omega|(simp only [List.length_take,List.length_drop,List.length_append,List.length_cons,List.length_nil,List.length_set,List.length_map];omega)|decide),(by first|omega|(simp only [List.length_take,List.length_drop,List.length_append,List.length_cons,List.length_nil,List.length_set,List.length_map];omega)|decide)⟩ C7.none)))
 refine C2d (q:=G5 B2 ([⟨(p3Rowsrs.getD ((i).toNat) (⟨none,0,0⟩:Slc)).q,((p3Rows.getD ((i).toNat) []).take ((p1.col).toNat)).length,(p3Rowsrs.getD ((i).toNat) (⟨none,0,0⟩:Slc)).k⟩,⟨(p2Rowsrs.getD ((i).toNat - (p1.row).toNat) (⟨none,0,0⟩:Slc)).q,(p2Rows.getD ((i).toNat - (p1.row).toNat) []).length,(p2Rowsrs.getD ((i).toNat - (p1.row).toNat) (⟨none,0,0⟩:Slc)).k⟩,⟨(A6d ((p3Rowsrs.getD ((i).toNat) (⟨none,0,0⟩:Slc)).q) ((p1.col).toNat+(p2.cols).toNat) 12 ((p3Rowsrs.getD ((i).toNat) (⟨none,0,0⟩:Slc)).k)),((p3Rows.getD ((i).toNat) []).drop ((p1.col).toNat+(p2.cols).toNat)).length,(((p3Rowsrs.getD ((i).toNat) (⟨none,0,0⟩:Slc)).k) - ((p1.col).toNat+(p2.cols).toNat))⟩]:List Slc) ([((p3Rows.getD ((i).toNat) []).take ((p1.col).toNat)),(p2Rows.getD ((i).toNat - (p1.row).toNat) []),((p3Rows.getD ((i).toNat) []).drop ((p1.col).toNat+(p2.cols).toNat))]:List (List Cel))) (A2j (B5 3 rfl) (A2j (B5 2 rfl) (A2j (B5 1 rfl) P0))) ?_
 have:([⟨(p3Rowsrs.getD ((i).toNat) (⟨none,0,0⟩:Slc)).q,((p3Rows.getD ((i).toNat) []).take ((p1.col).toNat)).length,(p3Rowsrs.getD ((i).toNat) (⟨none,0,0⟩:Slc)).k⟩,⟨(p2Rowsrs.getD ((i).toNat - (p1.row).toNat) (⟨none,0,0⟩:Slc)).q,(p2Rows.getD ((i).toNat - (p1.row).toNat) []).length,(p2Rowsrs.getD ((i).toNat - (p1.row).toNat) (⟨none,0,0⟩:Slc)).k⟩,⟨(A6d ((p3Rowsrs.getD ((i).toNat) (⟨none,0,0⟩:Slc)).q) ((p1.col).toNat+(p2.cols).toNat) 12 ((p3Rowsrs.getD ((i).toNat) (⟨none,0,0⟩:Slc)).k)),((p3Rows.getD ((i).toNat) []).drop ((p1.col).toNat+(p2.cols).toNat)).length,(((p3Rowsrs.getD ((i).toNat) (⟨none,0,0⟩:Slc)).k) - ((p1.col).toNat+(p2.cols).toNat))⟩]:List Slc).length=3:=rfl
 have hQ:=G6 hR;clear hR;obtain ⟨y2,hy2,hR⟩:=hQ
 refine zho 25 [bx p1b (L7 p1) 24,bx p2b (A0 p2 ⟨p2Rowsq,p2Rows.length,p2Rowsk⟩) 26,bx p3b (A0 p3 ⟨p3Rowsq,p3Rows.length,p3Rowsk⟩) 26] (zml 27 67108863) rfl (I5 (L2:=[bx p1b (L7 p1) 24,bx p2b (A0 p2 ⟨p2Rowsq,p2Rows.length,p2Rowsk⟩) 26,bx p3b (A0 p3 ⟨p3Rowsq,p3Rows.length,p3Rowsk⟩) 26]) (A2p ([((p3Rows.getD ((i).toNat) []).take ((p1.col).toNat)),(p2Rows.getD ((i).toNat - (p1.row).toNat) []),((p3Rows.getD ((i).toNat) []).drop ((p1.col).toNat+(p2.cols).toNat))]:List (List Cel)) (some ⟨b9,0,none⟩) ([⟨(p3Rowsrs.getD ((i).toNat) (⟨none,0,0⟩:Slc)).q,((p3Rows.getD ((i).toNat) []).take ((p1.col).toNat)).length,(p3Rowsrs.getD ((i).toNat) (⟨none,0,0⟩:Slc)).k⟩,⟨(p2Rowsrs.getD ((i).toNat - (p1.row).toNat) (⟨none,0,0⟩:Slc)).q,(p2Rows.getD ((i).toNat - (p1.row).toNat) []).length,(p2Rowsrs.getD ((i).toNat - (p1.row).toNat) (⟨none,0,0⟩:Slc)).k⟩,⟨(A6d ((p3Rowsrs.getD ((i).toNat) (⟨none,0,0⟩:Slc)).q) ((p1.col).toNat+(p2.cols).toNat) 12 ((p3Rowsrs.getD ((i).toNat) (⟨none,0,0⟩:Slc)).k)),((p3Rows.getD ((i).toNat) []).drop ((p1.col).toNat+(p2.cols).toNat)).length,(((p3Rowsrs.getD ((i).toNat) (⟨none,0,0⟩:Slc)).k) - ((p1.col).toNat+(p2.cols).toNat))⟩]:List Slc) 3 hrows10 (by first|omega|(simp only [List.length_take,List.length_drop,List.length_append,List.length_cons,List.length_nil,List.length_set,List.length_map];omega)|decide) (by first|omega|(simp only [List.length_take,List.length_drop,List.length_append,List.length_cons,List.length_nil,List.length_set,List.length_map];omega)|decide) (by first|omega|(simp only [List.length_cons,List.length_nil];omega)) (by intro i hi;simp only [List.length_cons,List.length_nil] at hi;match i,hi with|0,_=>(simp only [List.getD_cons_zero,List.length_take,List.length_drop];omega)|1,_=>(simp only [List.getD_cons_zero,List.getD_cons_succ,List.length_take,List.length_drop];omega)|2,_=>(simp only [List.getD_cons_zero,List.getD_cons_succ,List.length_take,List.length_drop];omega)) y2 hy2) rfl rfl rfl rfl rfl (A2.pick [1,0] rfl) (List.Perm.refl _) (fun ⟨r11,hk12⟩=>(bx p1b (L7 p1) 24::bx p2b (A0 p2 ⟨p2Rowsq,p2Rows.length,p2Rowsk⟩) 26::bx p3b (A0 p3 ⟨p3Rowsq,p3Rows.length,p3Rowsk⟩) 26::(vo B2 72 r11 y2)++([]))) (fun ⟨r11,hk12⟩=>H3 [vo B2 72 r11 y2,[bx p1b (L7 p1) 24],[bx p2b (A0 p2 ⟨p2Rowsq,p2Rows.length,p2Rowsk⟩) 26],[bx p3b (A0 p3 ⟨p3Rowsq,p3Rows.length,p3Rowsk⟩) 26]] [1,2,3,0] 4 rfl (by decide) (by first|rfl|simp only [List.flatten_cons,List.flatten_nil,List.append_nil,List.cons_append,List.nil_append,List.append_assoc]) [[bx p1b (L7 p1) 24],[bx p2b (A0 p2 ⟨p2Rowsq,p2Rows.length,p2Rowsk⟩) 26],[bx p3b (A0 p3 ⟨p3Rowsq,p3Rows.length,p3Rowsk⟩) 26],vo B2 72 r11 y2] rfl (by first|rfl|simp only [List.flatten_cons,List.flatten_nil,List.append_nil,List.cons_append,List.nil_append,List.append_assoc]))) (fun ⟨r11,hk12⟩=>(mc [[bx p1b (L7 p1) 24],[bx p2b (A0 p2 ⟨p2Rowsq,p2Rows.length,p2Rowsk⟩) 26],[bx p3b (A0 p3 ⟨p3Rowsq,p3Rows.length,p3Rowsk⟩) 26],vo B2 72 r11 y2] [true,true,true,false] rfl (by first|rfl|(simp only [List.length_set]<;>rfl)))) (fun ⟨r11,hk12⟩=>(A2.pick [2,3,4,5,6,7,8,9] rfl)) fun ⟨r11,hk12⟩=>?_
 have:=VOk.le hk12
 have:=VOk.cap hk12
 have hcc:=W0 ([((p3Rows.getD ((i).toNat) []).take ((p1.col).toNat)),(p2Rows.getD ((i).toNat - (p1.row).toNat) []),((p3Rows.getD ((i).toNat) []).drop ((p1.col).toNat+(p2.cols).toNat))]:List (List Cel));rw [hy2] at hcc
 refine zhp [26] 0 (zml 27 134217727) [(5,.slice (va r11.q) y2.length r11.k)] ?_
 refine B0r (by kernel_rfl) ?_
 refine A7 (C0c [bx p1b (L7 p1) 24,bx p2b (A0 p2 ⟨p2Rowsq,p2Rows.length,p2Rowsk⟩) 26,bx p3b (A0 p3 ⟨p3Rowsq,p3Rows.length,p3Rowsk⟩) 26] [] (T:=72) (c:=B2) (r:=r11) (xs:=y2) hk12 (by first|rfl|simp only [List.cons_append,List.append_assoc,List.nil_append,List.append_nil]) ?_)
 have:=VOk.cap hk12
 subst hR
 exact zer hr hD (P3 rfl (B1 rfl)) (zq (va r11.q) r11.k) (mk [true,true,true] rfl) (A2.con1 (B5 0 rfl) fn0)
def J2 (ofc:Plc) (ofc1:FrmC) (ofcRows:List (List Cel)) (ofc2:FrmC) (ofcRows1:List (List Cel)):List (List Cel)→List (List Cel)→Nat→List (List Cel)
 | [],out,t11=>out
 | hd_l0::tl_l0,out,t11=>(F1 (A1f (t11:Int) ofc ofc1 ofcRows ofc2 ofcRows1) fun (y0:List Cel)=>J2 ofc ofc1 ofcRows ofc2 ofcRows1 tl_l0 (out.set t11 y0) (t11+1))
def M6 (n:Int) (ofc:Plc) (ofc1:FrmC) (ofcRows:List (List Cel)) (ofc2:FrmC) (ofcRows1:List (List Cel)):List (List Cel) :=
 J2 ofc ofc1 ofcRows ofc2 ofcRows1 (List.replicate ((n).toNat) ([]:List Cel)) (List.replicate ((n).toNat) ([]:List Cel)) 0
theorem A0t (p:Plc) (o:FrmC) (oR:List (List Cel)) (o2:FrmC) (oR2:List (List Cel)):∀ (tl out:List (List Cel)) (t:Nat),out.length=t+tl.length→J2 p o oR o2 oR2 tl out t=out.take t++(List.range' t tl.length).map (fun (i:Nat)=>A1f (i:Int) p o oR o2 oR2)
 | [],out,t,h=>by simp only [J2,List.length_nil,List.range'_zero,List.map_nil,List.append_nil];rw [List.take_of_length_le (by simp at h;omega)]
 | _::tl,out,t,h=>by
  have hlt:t<out.length:=by simp at h;omega
  simp only [J2,F1]
  rw [A0t p o oR o2 oR2 tl _ (t+1) (by simp at h ⊢;omega),List.take_add_one,List.take_set_of_le (Nat.le_refl _),List.getElem?_set_self hlt,List.length_cons,List.range'_succ]
  simp
theorem A7i (n:Int) (p:Plc) (o:FrmC) (oR:List (List Cel)) (o2:FrmC) (oR2:List (List Cel)):M6 n p o oR o2 oR2=(List.range n.toNat).map (fun (i:Nat)=>A1f (i:Int) p o oR o2 oR2):=by
 unfold M6
 rw [A0t p o oR o2 oR2 _ _ 0 (by simp),List.range_eq_range'];simp
theorem A8f (n:Int) (p:Plc) (o:FrmC) (oR:List (List Cel)) (o2:FrmC) (oR2:List (List Cel)) (h:∀ i,0≤i∧i<n→C8h i p o oR o2 oR2):∀ k,k<(M6 n p o oR o2 oR2).length→((M6 n p o oR o2 oR2).getD k []).length≤100:=by
 rw [A7i]
 intro k hk
 have hk':k<n.toNat:=by simpa using hk
 rw [List.getD_eq_getElem?_getD,List.getElem?_map,List.getElem?_range hk']
 exact C8d (h (k:Int) (by omega))
theorem A8k (n:Int) (ofc:Plc) (ofc1:FrmC) (ofcRows:List (List Cel)) (ofc2:FrmC) (ofcRows1:List (List Cel)) (ofcb:Nat) (ofcb1:Nat) (ofcRowsq:Option Addr) (ofcRowsrs:List Slc) (ofcRowsk:Nat) (ofcb2:Nat) (ofcRowsq1:Option Addr) (ofcRowsrs1:List Slc) (ofcRowsk1:Nat) (hrowsofcRowsrs:C7 ofcRowsrs ofcRows) (hlofcRows:ofcRows.length≤9223372036854775807) (hcofcRows:ofcRows.length≤ofcRowsk) (hrowsofcRowsrs1:C7 ofcRowsrs1 ofcRows1) (hlofcRows1:ofcRows1.length≤9223372036854775807) (hcofcRows1:ofcRows1.length≤ofcRowsk1) (hq:0≤n∧n≤40∧∀ i,0≤i∧i<n→C8h i ofc ofc1 ofcRows ofc2 ofcRows1) (R:List (List Cel)) (hR:M6 n ofc ofc1 ofcRows ofc2 ofcRows1=R):Con Tryz.prog 58 [iv n,.func (.func 62) #[] #[pt ofcb 0,pt ofcb1 0,pt ofcb2 0]] [bx ofcb (L7 ofc) 24,bx ofcb1 (A0 ofc1 ⟨ofcRowsq,ofcRows.length,ofcRowsk⟩) 26,bx ofcb2 (A0 ofc2 ⟨ofcRowsq1,ofcRows1.length,ofcRowsk1⟩) 26] [sl C4 ofcRowsq ofcRowsrs,G5 B2 ofcRowsrs ofcRows,sl C4 ofcRowsq1 ofcRowsrs1,G5 B2 ofcRowsrs1 ofcRows1] ({t:VR×List Slc // VOk 1 R.length t.1∧C7 t.2 R}) (fun x=>.slice (va x.1.1.q) R.length x.1.1.k) (fun x=>(bx ofcb (L7 ofc) 24::bx ofcb1 (A0 ofc1 ⟨ofcRowsq,ofcRows.length,ofcRowsk⟩) 26::bx ofcb2 (A0 ofc2 ⟨ofcRowsq1,ofcRows1.length,ofcRowsk1⟩) 26::(vo C4 69 x.1.1 x.1.2)++([]))) (fun x=>[G5 B2 x.1.2 R]):=by
 refine zco Tryz.func58 [(0,iv n),(1,.func (.func 62) #[] #[pt ofcb 0,pt ofcb1 0,pt ofcb2 0])] fun X hX hr hD=>?_
 replace hR:=(M6.eq_1 ..).symm.trans hR
 have:=hrowsofcRowsrs.1
 have:=hrowsofcRowsrs1.1
 refine sr 1 rfl (ip' 1 0 [] ?_)
 refine ie (sr 3 rfl (ip' 1 2 [(7,iv n)] ?_))
 refine H6 (q:=G5 B2 (List.replicate ((n).toNat) (⟨none,0,0⟩:Slc)) (List.replicate ((n).toNat) ([]:List Cel))) B6p ?_
 refine it rfl (B9b (β:=Cel) (l:=(n).toNat) (c:=(n).toNat) C2j C9g.ok rfl (by exact congrArg (fun z=>some (Value.int .i64 z)) (show n=(((n).toNat:Nat):Int) by omega)) (by exact congrArg (fun z=>some (Value.int .i64 z)) (show n=(((n).toNat:Nat):Int) by omega)) (by omega) (by first|omega|(simp only [List.length_cons,List.length_nil,List.length_append,List.length_take,List.length_drop];omega)) (by omega)) fun ⟨r1,hr2⟩=>?_
 have:=VOk.le hr2
 have:=VOk.cap hr2
 have:(List.replicate ((n).toNat) ([]:List Cel)).length=(n).toNat:=List.length_replicate
 refine ip' 1 0 [(5,.slice (va r1.q) ((List.replicate ((n).toNat) ([]:List Cel)).length) r1.k)] ?_
 refine ie (A3 (sr 3 rfl (ip' 3 0 [(10,iv ((List.replicate ((n).toNat) ([]:List Cel)).length:Int)),(11,iv 0)] ?_)))
 refine ie (B0 ?_)
 refine B2k (fun (out:List (List Cel)) (outr:VR) (outrs:List Slc) (t11:Nat)=>(t11≤(List.replicate ((n).toNat) ([]:List Cel)).length∧J2 ofc ofc1 ofcRows ofc2 ofcRows1 ((List.replicate ((n).toNat) ([]:List Cel)).drop t11) out t11=R∧VOk 1 out.length outr∧C7 outrs out∧out.length=n.toNat,[(1,.func (.func 62) #[] #[pt ofcb 0,pt ofcb1 0,pt ofcb2 0]),(5,.slice (va outr.q) out.length outr.k),(10,iv ((List.replicate ((n).toNat) ([]:List Cel)).length:Int)),(11,iv (t11:Int))],(bx ofcb (L7 ofc) 24::bx ofcb1 (A0 ofc1 ⟨ofcRowsq,ofcRows.length,ofcRowsk⟩) 26::bx ofcb2 (A0 ofc2 ⟨ofcRowsq1,ofcRows1.length,ofcRowsk1⟩) 26::(vo C4 69 outr outrs)++([])),[G5 B2 (List.replicate ((n).toNat) (⟨none,0,0⟩:Slc)) (List.replicate ((n).toNat) ([]:List Cel)),sl C4 ofcRowsq ofcRowsrs,G5 B2 ofcRowsrs ofcRows,sl C4 ofcRowsq1 ofcRowsrs1,G5 B2 ofcRowsrs1 ofcRows1,G5 B2 outrs out],(List.replicate ((n).toNat) ([]:List Cel)).length - t11)) (List.replicate ((n).toNat) ([]:List Cel)) r1 (List.replicate ((n).toNat) (⟨none,0,0⟩:Slc)) 0 ⟨(by omega),hR,hr2,(C7.rep ((n).toNat)),(by exact List.length_replicate)⟩ (mc [[bx ofcb (L7 ofc) 24],[bx ofcb1 (A0 ofc1 ⟨ofcRowsq,ofcRows.length,ofcRowsk⟩) 26],[bx ofcb2 (A0 ofc2 ⟨ofcRowsq1,ofcRows1.length,ofcRowsk1⟩) 26],vo C4 69 r1 (List.replicate ((n).toNat) (⟨none,0,0⟩:Slc))] [true,true,true,true] rfl (by first|rfl|(simp only [List.length_set]<;>rfl))) (A2.pick [0,1,2,3,4,0] rfl) ?_
 rintro out outr outrs t11 ⟨hm3,hR,hokoutr,hrowsoutrs,hll⟩
 have:=VOk.le hokoutr
 have:=hrowsoutrs.1
 have:(List.replicate (n.toNat) ([]:List Cel)).length=n.toNat:=List.length_replicate
 have hqj:=fun (hh:(t11:Int)<n)=>hq.2.2 (t11:Int) ⟨by omega,hh⟩
 refine sr 1 rfl (ip' 1 0 [(12,bv (decide ((t11:Int)<((List.replicate ((n).toNat) ([]:List Cel)).length:Int))))] ?_)
 refine ie (A3 (S2 rfl (fun h4=>?_) (fun h4=>?_)))
 ·have h4p:(t11:Int)<((List.replicate ((n).toNat) ([]:List Cel)).length:Int):=by simpa using h4
  rw [U1 [] (show t11<(List.replicate ((n).toNat) ([]:List Cel)).length by omega)] at hR;replace hR:=(J2.eq_2 ..).symm.trans hR
  refine A4 (nx (A3 (B0 (sr 2 rfl (ip' 2 0 [(6,iv (t11:Int))] ?_)))))
  refine ie (A5 7 rfl (ip' 4 3 [(14,.slice (va outr.q) out.length outr.k),(15,iv (t11:Int)),(16,.func (.func 62) #[] #[pt ofcb 0,pt ofcb1 0,pt ofcb2 0]),(17,iv (t11:Int))] ?_))
  have hQ:=G6 hR;clear hR;obtain ⟨y0,hy0,hR⟩:=hQ
  refine it rfl (H2 (L2:=((vo C4 69 outr outrs)++([]))) (B7r (t11:Int) ofc ofc1 ofcRows ofc2 ofcRows1 ofcb ofcb1 ofcRowsq ofcRowsrs ofcRowsk ofcb2 ofcRowsq1 ofcRowsrs1 ofcRowsk1 hrowsofcRowsrs (by first|omega|(simp only [List.length_take,List.length_drop,List.length_append,List.length_cons,List.length_nil,List.length_set,List.length_map];omega)|decide) (by first|omega|(simp only [List.length_take,List.length_drop,List.length_append,List.length_cons,List.length_nil,List.length_set,List.length_map];omega)|decide) hrowsofcRowsrs1 (by first|omega|(simp only [List.length_take,List.length_drop,List.length_append,List.length_cons,List.length_nil,List.length_set,List.length_map];omega)|decide) (by first|omega|(simp only [List.length_take,List.length_drop,List.length_append,List.length_cons,List.length_nil,List.length_set,List.length_map];omega)|decide) (by exact hqj (by omega)) y0 hy0) rfl rfl rfl rfl rfl (A2.pick [1,2,3,4] rfl) (H3 [[bx ofcb (L7 ofc) 24],[bx ofcb1 (A0 ofc1 ⟨ofcRowsq,ofcRows.length,ofcRowsk⟩) 26],[bx ofcb2 (A0 ofc2 ⟨ofcRowsq1,ofcRows1.length,ofcRowsk1⟩) 26],vo C4 69 outr outrs] [0,1,2,3] 4 rfl (by decide) rfl [[bx ofcb (L7 ofc) 24],[bx ofcb1 (A0 ofc1 ⟨ofcRowsq,ofcRows.length,ofcRowsk⟩) 26],[bx ofcb2 (A0 ofc2 ⟨ofcRowsq1,ofcRows1.length,ofcRowsk1⟩) 26],vo C4 69 outr outrs] rfl (by first|rfl|simp only [List.flatten_cons,List.flatten_nil,List.append_nil,List.cons_append,List.nil_append,List.append_assoc])) (fun ⟨⟨q5,k6⟩,hp7⟩=>(bx ofcb (L7 ofc) 24::bx ofcb1 (A0 ofc1 ⟨ofcRowsq,ofcRows.length,ofcRowsk⟩) 26::bx ofcb2 (A0 ofc2 ⟨ofcRowsq1,ofcRows1.length,ofcRowsk1⟩) 26::(vo C4 69 outr outrs)++([]))) (fun _=>by first|rfl|simp only [List.append_nil,List.cons_append,List.nil_append,List.append_assoc])) fun ⟨⟨q5,k6⟩,hp7⟩=>?_
  obtain ⟨hc8,hl9⟩:=hp7
  obtain ⟨b10,hb11⟩:=VOk.some hokoutr (by omega)
  obtain ⟨q12,k13,j14⟩:=outr
  obtain rfl:q12=some b10:=hb11
  refine H6 (P9 (k:=t11) (d:=(⟨none,0,0⟩:Slc)) hrowsoutrs 6 rfl (by have:=hrowsoutrs.1;omega)) ?_
  have:=P8 hrowsoutrs (k:=t11) (d:=(⟨none,0,0⟩:Slc)) (by have:=hrowsoutrs.1;omega)
  refine ix rfl (S6 A0k rfl rfl rfl t11 rfl (by have:=hrowsoutrs.1;omega)) ?_
  have hw15:C7 (outrs.set t11 (⟨q5,y0.length,k6⟩:Slc)) (out.set t11 y0):=C7.set hrowsoutrs t11 ⟨rfl,(by first|omega|(simp only [List.length_take,List.length_drop,List.length_append,List.length_cons,List.length_nil,List.length_set,List.length_map];omega)|decide),(by first|omega|(simp only [List.length_take,List.length_drop,List.length_append,List.length_cons,List.length_nil,List.length_set,List.length_map];omega)|decide)⟩
  refine H6 (B3d t11 (r:=(⟨q5,y0.length,k6⟩:Slc)) (xs:=y0) (B5 7 rfl) (B5 1 rfl)) ?_
  refine it rfl (V1 (us:=[.slice q5 y0.length k6]) (u':=(⟨q5,y0.length,k6⟩:Slc)) (c:=C4) (sz:=1) A3e (fun _=>rfl) rfl rfl rfl 3 rfl rfl rfl rfl t11 0 rfl (gd (⟨none,0,0⟩:Slc) (by have:=hrowsoutrs.1;omega)) rfl rfl) fun _=>?_
  refine A1 (nx (A5 2 rfl (ix rfl (B4 rfl rfl rfl rfl (by omega)) ?_)))
  refine ip' 1 0 [(11,iv ((t11:Int)+1))] ?_
  refine A1 ?_
  exact B1k (z1:=out) (z2:=(⟨some b10,k13,j14⟩:VR)) (z3:=outrs) (z4:=t11) (out.set t11 y0) (⟨some b10,k13,j14⟩:VR) (outrs.set t11 (⟨q5,y0.length,k6⟩:Slc)) (t11+1) ⟨(by omega),hR,(VOk.cast hokoutr (by simp)),hw15,(by (rw [List.length_set];exact hll))⟩ (by (try dsimp only);omega) (mc [[bx ofcb (L7 ofc) 24],[bx ofcb1 (A0 ofc1 ⟨ofcRowsq,ofcRows.length,ofcRowsk⟩) 26],[bx ofcb2 (A0 ofc2 ⟨ofcRowsq1,ofcRows1.length,ofcRowsk1⟩) 26],vo C4 69 (⟨some b10,k13,j14⟩:VR) (outrs.set t11 (⟨q5,y0.length,k6⟩:Slc))] [true,true,true,true] rfl (by first|rfl|(simp only [List.length_set]<;>rfl))) (A2.pick [3,4,5,6,7,0] rfl)
 have h4p:¬ ((t11:Int)<((List.replicate ((n).toNat) ([]:List Cel)).length:Int)):=by simpa using h4
 rw [U2 h4p] at hR;replace hR:=(J2.eq_1 ..).symm.trans hR
 refine G2 (nx (sr 2 rfl (ip' 2 0 [(4,.slice (va outr.q) out.length outr.k)] ?_)))
 subst hR
 refine ie (A7 ?_)
 exact zer hr hD (P3 rfl (B1 rfl)) ⟨(outr,outrs),⟨hokoutr,hrowsoutrs⟩⟩ (mc [[bx ofcb (L7 ofc) 24],[bx ofcb1 (A0 ofc1 ⟨ofcRowsq,ofcRows.length,ofcRowsk⟩) 26],[bx ofcb2 (A0 ofc2 ⟨ofcRowsq1,ofcRows1.length,ofcRowsk1⟩) 26],vo C4 69 outr outrs] [true,true,true,true] rfl (by first|rfl|(simp only [List.length_set]<;>rfl))) (A2.con1 (B5 5 rfl) fn0)
def A7v (f:FrmC) (fR:List (List Cel)) (g:FrmC) (gRows:List (List Cel)) (at_:Plc):FrmC×List (List Cel)×Int :=
 (bif (!decide ((H4 f fR)=0)) then (FrmC.zero,([]:List (List Cel)),(H4 f fR)) else (bif (!decide ((H4 g gRows)=0)) then (FrmC.zero,([]:List (List Cel)),(H4 g gRows)) else (bif (!(A1c f fR at_.row at_.col (gRows.length:Int) g.cols)) then (FrmC.zero,([]:List (List Cel)),2) else (F1 (M6 (fR.length:Int) at_ g gRows f fR) fun (y3:List (List Cel))=>(F1 (Z0 f y3) fun (y1:List (List Cel))=>(f,y1,0))))))
theorem B5g (f:FrmC) (fr:List (List Cel)) (g:FrmC) (gr:List (List Cel)) (p:Plc):(A7v f fr g gr p).1.title.length≤f.title.length:=by
 unfold A7v F1
 simp only [Bool.cond_eq_ite]
 repeat' split
 all_goals first|exact Nat.zero_le _|exact Nat.le_refl _
theorem C2v (f:FrmC) (fR:List (List Cel)) (g:FrmC) (gRows:List (List Cel)) (at_:Plc) (fQ:Option Addr) (fZ:List Slc) (fK:Nat) (gRowsq:Option Addr) (gRowsrs:List Slc) (gRowsk:Nat) (hrowsfRowsrs:C7 fZ fR) (hlfRows:fR.length≤9223372036854775807) (hcfRows:fR.length≤fK) (hrowsgRowsrs:C7 gRowsrs gRows) (hlgRows:gRows.length≤9223372036854775807) (hcgRows:gRows.length≤gRowsk) (hT:f.title.length≤100000000) (hTg:g.title.length≤100000000) (R:FrmC×List (List Cel)×Int) (hR:A7v f fR g gRows at_=R):Con Tryz.prog 28 [ag (A0 f ⟨fQ,fR.length,fK⟩),ag (A0 g ⟨gRowsq,gRows.length,gRowsk⟩),ag (L7 at_)] [] [sl C4 fQ fZ,G5 B2 fZ fR,sl C4 gRowsq gRowsrs,G5 B2 gRowsrs gRows,A0z,A1a] ({t:VR×List Slc // VOk 1 R.2.1.length t.1∧C7 t.2 R.2.1}) (fun x=>.tuple #[ag (A0 R.1 ⟨va x.1.1.q,R.2.1.length,x.1.1.k⟩),iv R.2.2]) (fun x=>((vo C4 69 x.1.1 x.1.2)++([]))) (fun x=>[G5 B2 x.1.2 R.2.1]):=by
 refine zco Tryz.func28 [(0,ag (A0 f ⟨fQ,fR.length,fK⟩)),(1,ag (A0 g ⟨gRowsq,gRows.length,gRowsk⟩)),(2,ag (L7 at_))] fun X hX hr hD=>?_
 replace hR:=(A7v.eq_1 ..).symm.trans hR
 have:=hrowsfRowsrs.1
 have:=hrowsgRowsrs.1
 refine sr 5 rfl (D4d 3 2 [] (fun b1 b2 b3=>[(3,pt b1 0),(4,pt b2 0),(5,pt b3 0)]) (fun b1 b2 b3=>[bx b3 (L7 at_) 24,bx b2 (A0 g ⟨gRowsq,gRows.length,gRowsk⟩) 26,bx b1 (A0 f ⟨fQ,fR.length,fK⟩) 26]) (fun b1 b2 b3=>?_))
 refine I7 2 0 [] (fun b4=>[(6,pt b4 0)]) (fun b4=>[bx b4 (A0 FrmC.zero ⟨none,0,0⟩) 26,bx b3 (L7 at_) 24,bx b2 (A0 g ⟨gRowsq,gRows.length,gRowsk⟩) 26,bx b1 (A0 f ⟨fQ,fR.length,fK⟩) 26]) (fun b4=>?_)
 refine ie (A3 (sr 4 rfl (zrl 4 0 [3,2] [(14,ag [iv f.cols,.slice fQ fR.length fK,iv f.cursor.row,iv f.cursor.col,bv f.visible,iv f.shape,sv f.title,iv g.cols,.slice gRowsq gRows.length gRowsk,iv g.cursor.row,iv g.cursor.col,bv g.visible,iv g.shape,sv g.title]),(15,iv 0)] ?_)))
 refine ie (B0 (R6 4 ?_))
 refine D7 (sr 1 rfl (ip' 1 0 [(16,bv true)] ?_))
 refine ie (A3 (H8 rfl (A4 (nx (A3 (B0 (sr 3 rfl (ix rfl (F0 (v:=ag [iv f.cols,.slice fQ fR.length fK,iv f.cursor.row,iv f.cursor.col,bv f.visible,iv f.shape,sv f.title]) (us:=[iv f.cols,.slice fQ fR.length fK,iv f.cursor.row,iv f.cursor.col,bv f.visible,iv f.shape,sv f.title]) Tryz.underlying110 A7f rfl rfl rfl 0 rfl (by decide) rfl rfl rfl) ?_))))))))
 refine I7 2 0 [0] (fun b5=>[(9,pt b5 0)]) (fun b5=>[bx b5 (A0 f ⟨fQ,fR.length,fK⟩) 26,bx b4 (A0 FrmC.zero ⟨none,0,0⟩) 26,bx b3 (L7 at_) 24,bx b2 (A0 g ⟨gRowsq,gRows.length,gRowsk⟩) 26,bx b1 (A0 f ⟨fQ,fR.length,fK⟩) 26]) (fun b5=>?_)
 refine ie (sr 3 rfl (zrl 1 2 [0] [(18,ag (A0 f ⟨fQ,fR.length,fK⟩))] ?_))
 refine zca (A3z f fR fQ fZ fK hrowsfRowsrs (by first|omega|(simp only [List.length_take,List.length_drop,List.length_append,List.length_cons,List.length_nil,List.length_set,List.length_map];omega)|decide) (by first|omega|(simp only [List.length_take,List.length_drop,List.length_append,List.length_cons,List.length_nil,List.length_set,List.length_map];omega)|decide) (by first|omega|(simp only [List.length_nil];omega)|(dsimp only;omega)) _ rfl) (A2.pick [0,1,4,5] rfl) ?_
 refine ip' 1 0 [(10,iv (H4 f fR))] ?_
 refine ie (sr 2 rfl (ip' 2 0 [(21,bv (!decide ((H4 f fR)=0)))] ?_))
 refine ie ?_
 refine zjn rfl hR ?_ ?_<;>clear hR<;>intro hR h6 h6p
 ·refine sr 4 rfl (zrg 4 0 [1] [(7,iv (H4 f fR))] [bx b5 (A0 f ⟨fQ,fR.length,fK⟩) 26,bx b4 (A0 FrmC.zero ⟨none,0,0⟩) 26,bx b3 (L7 at_) 24,bx b2 (A0 g ⟨gRowsq,gRows.length,gRowsk⟩) 26,bx b1 (A0 f ⟨fQ,fR.length,fK⟩) 26] ?_)
  subst hR
  refine ie (A7 ?_)
  exact zer hr hD (V5 rfl (I1 (us:=A0 FrmC.zero ⟨none,0,0⟩) A7f rfl 1 rfl rfl rfl) (B1 rfl)) ⟨(VR.nil,([]:List Slc)),⟨VOk.nil,C7.none⟩⟩ (mc [[bx b5 (A0 f ⟨fQ,fR.length,fK⟩) 26],[bx b4 (A0 FrmC.zero ⟨none,0,0⟩) 26],[bx b3 (L7 at_) 24],[bx b2 (A0 g ⟨gRowsq,gRows.length,gRowsk⟩) 26],[bx b1 (A0 f ⟨fQ,fR.length,fK⟩) 26],vo C4 69 VR.nil ([]:List Slc)] [false,false,false,false,false,true] rfl (by first|rfl|(simp only [List.length_set]<;>rfl))) (A2.con1 P0 fn0)
 have hfc_h6:=A3d (by first|exact h6p|simpa using h6)
 refine A4 (nx (A5 2 rfl (ix rfl (B4 (c:=1) rfl rfl rfl rfl (by decide)) ?_)))
 refine ip' 1 0 [(15,iv 1)] ?_
 refine A1 (D7 (sr 1 rfl (ip' 1 0 [(16,bv true)] ?_)))
 refine ie (A3 (H8 rfl (A4 (nx (A3 (B0 (sr 3 rfl (ix rfl (F0 (v:=ag [iv g.cols,.slice gRowsq gRows.length gRowsk,iv g.cursor.row,iv g.cursor.col,bv g.visible,iv g.shape,sv g.title]) (us:=[iv g.cols,.slice gRowsq gRows.length gRowsk,iv g.cursor.row,iv g.cursor.col,bv g.visible,iv g.shape,sv g.title]) Tryz.underlying110 A7f rfl rfl rfl 1 rfl (by decide) rfl rfl rfl) ?_))))))))
 refine I7 2 0 [0] (fun b7=>[(9,pt b7 0)]) (fun b7=>[bx b7 (A0 g ⟨gRowsq,gRows.length,gRowsk⟩) 26,bx b5 (A0 f ⟨fQ,fR.length,fK⟩) 26,bx b4 (A0 FrmC.zero ⟨none,0,0⟩) 26,bx b3 (L7 at_) 24,bx b2 (A0 g ⟨gRowsq,gRows.length,gRowsk⟩) 26,bx b1 (A0 f ⟨fQ,fR.length,fK⟩) 26]) (fun b7=>?_)
 refine ie (sr 3 rfl (zrl 1 2 [0] [(18,ag (A0 g ⟨gRowsq,gRows.length,gRowsk⟩))] ?_))
 refine zca (A3z g gRows gRowsq gRowsrs gRowsk hrowsgRowsrs (by first|omega|(simp only [List.length_take,List.length_drop,List.length_append,List.length_cons,List.length_nil,List.length_set,List.length_map];omega)|decide) (by first|omega|(simp only [List.length_take,List.length_drop,List.length_append,List.length_cons,List.length_nil,List.length_set,List.length_map];omega)|decide) (by first|omega|(simp only [List.length_nil];omega)|(dsimp only;omega)) _ rfl) (A2.pick [2,3,4,5] rfl) ?_
 refine ip' 1 0 [(10,iv (H4 g gRows))] ?_
 refine ie (sr 2 rfl (ip' 2 0 [(21,bv (!decide ((H4 g gRows)=0)))] ?_))
 refine ie ?_
 refine zjn rfl hR ?_ ?_<;>clear hR<;>intro hR h8 h8p
 ·refine sr 4 rfl (zrg 4 0 [2] [(7,iv (H4 g gRows))] [bx b7 (A0 g ⟨gRowsq,gRows.length,gRowsk⟩) 26,bx b5 (A0 f ⟨fQ,fR.length,fK⟩) 26,bx b4 (A0 FrmC.zero ⟨none,0,0⟩) 26,bx b3 (L7 at_) 24,bx b2 (A0 g ⟨gRowsq,gRows.length,gRowsk⟩) 26,bx b1 (A0 f ⟨fQ,fR.length,fK⟩) 26] ?_)
  subst hR
  refine ie (A7 ?_)
  exact zer hr hD (V5 rfl (I1 (us:=A0 FrmC.zero ⟨none,0,0⟩) A7f rfl 2 rfl rfl rfl) (B1 rfl)) ⟨(VR.nil,([]:List Slc)),⟨VOk.nil,C7.none⟩⟩ (mc [[bx b7 (A0 g ⟨gRowsq,gRows.length,gRowsk⟩) 26],[bx b5 (A0 f ⟨fQ,fR.length,fK⟩) 26],[bx b4 (A0 FrmC.zero ⟨none,0,0⟩) 26],[bx b3 (L7 at_) 24],[bx b2 (A0 g ⟨gRowsq,gRows.length,gRowsk⟩) 26],[bx b1 (A0 f ⟨fQ,fR.length,fK⟩) 26],vo C4 69 VR.nil ([]:List Slc)] [false,false,false,false,false,false,true] rfl (by first|rfl|(simp only [List.length_set]<;>rfl))) (A2.con1 P0 fn0)
 have hfc_h8:=A3d (by first|exact h8p|simpa using h8)
 refine A4 (nx (A5 2 rfl (ix rfl (B4 (c:=2) rfl rfl rfl rfl (by decide)) ?_)))
 refine ip' 1 0 [(15,iv 2)] ?_
 refine A1 (D7 (sr 1 rfl (ip' 1 0 [(16,bv false)] ?_)))
 refine ie (A3 (A0m rfl (G2 (nx (A3 (sr 13 rfl (zrl 11 2 [5,3,3,4,4] [(25,ag (A0 f ⟨fQ,fR.length,fK⟩)),(35,ag [iv at_.row,iv at_.col,iv (gRows.length:Int),iv g.cols])] ?_)))))))
 refine zca (B2g f fR at_.row at_.col (gRows.length:Int) g.cols fQ fZ fK hrowsfRowsrs (by first|omega|(simp only [List.length_take,List.length_drop,List.length_append,List.length_cons,List.length_nil,List.length_set,List.length_map];omega)|decide) (by first|omega|(simp only [List.length_take,List.length_drop,List.length_append,List.length_cons,List.length_nil,List.length_set,List.length_map];omega)|decide) (by first|omega|(dsimp only;omega)) _ rfl) (A2.pick [0,1] rfl) ?_
 refine ip' 1 0 [(37,bv (!(A1c f fR at_.row at_.col (gRows.length:Int) g.cols)))] ?_
 refine ie ?_
 refine zjb rfl hR ?_ ?_<;>clear hR<;>intro hR h9
 ·refine sr 3 rfl (zrg 3 0 [2] [(7,iv 2)] [bx b7 (A0 g ⟨gRowsq,gRows.length,gRowsk⟩) 26,bx b5 (A0 f ⟨fQ,fR.length,fK⟩) 26,bx b4 (A0 FrmC.zero ⟨none,0,0⟩) 26,bx b3 (L7 at_) 24,bx b2 (A0 g ⟨gRowsq,gRows.length,gRowsk⟩) 26,bx b1 (A0 f ⟨fQ,fR.length,fK⟩) 26] ?_)
  subst hR
  refine ie (A7 ?_)
  exact zer hr hD (V5 rfl (I1 (us:=A0 FrmC.zero ⟨none,0,0⟩) A7f rfl 2 rfl rfl rfl) (B1 rfl)) ⟨(VR.nil,([]:List Slc)),⟨VOk.nil,C7.none⟩⟩ (mc [[bx b7 (A0 g ⟨gRowsq,gRows.length,gRowsk⟩) 26],[bx b5 (A0 f ⟨fQ,fR.length,fK⟩) 26],[bx b4 (A0 FrmC.zero ⟨none,0,0⟩) 26],[bx b3 (L7 at_) 24],[bx b2 (A0 g ⟨gRowsq,gRows.length,gRowsk⟩) 26],[bx b1 (A0 f ⟨fQ,fR.length,fK⟩) 26],vo C4 69 VR.nil ([]:List Slc)] [false,false,false,false,false,false,true] rfl (by first|rfl|(simp only [List.length_set]<;>rfl))) (A2.con1 P0 fn0)
 have hls:=C6f (by simpa using h9)
 have hpm:0≤(fR.length:Int)∧(fR.length:Int)≤40∧∀ i,0≤i∧i<(fR.length:Int)→C8h i at_ g gRows f fR:=⟨by omega,by omega,fun i hi=>⟨B4y.of (by assumption),B4y.of (by assumption),by omega,by omega,by omega,by omega,by omega,by omega,by omega⟩⟩
 refine A4 (nx (sr 4 rfl (I7 4 0 [5,0] (fun b10=>[(11,pt b10 0)]) (fun b10=>[bx b10 (A0 f ⟨fQ,fR.length,fK⟩) 106,bx b7 (A0 g ⟨gRowsq,gRows.length,gRowsk⟩) 26,bx b5 (A0 f ⟨fQ,fR.length,fK⟩) 26,bx b4 (A0 FrmC.zero ⟨none,0,0⟩) 26,bx b3 (L7 at_) 24,bx b2 (A0 g ⟨gRowsq,gRows.length,gRowsk⟩) 26,bx b1 (A0 f ⟨fQ,fR.length,fK⟩) 26]) (fun b10=>?_))))
 refine ie (sr 8 rfl (zrl 4 4 [6] [(43,iv (fR.length:Int)),(44,.func (.func 62) #[] #[pt b3 0,pt b2 0,pt b1 0])] ?_))
 have hQ:=G6 hR;clear hR;obtain ⟨y3,hy3,hR⟩:=hQ
 refine it rfl (I5 (L2:=[bx b10 (A0 f ⟨fQ,fR.length,fK⟩) 106,bx b7 (A0 g ⟨gRowsq,gRows.length,gRowsk⟩) 26,bx b5 (A0 f ⟨fQ,fR.length,fK⟩) 26,bx b4 (A0 FrmC.zero ⟨none,0,0⟩) 26]) (A8k (fR.length:Int) at_ g gRows f fR b3 b2 gRowsq gRowsrs gRowsk b1 fQ fZ fK hrowsgRowsrs (by first|omega|(simp only [List.length_take,List.length_drop,List.length_append,List.length_cons,List.length_nil,List.length_set,List.length_map];omega)|decide) (by first|omega|(simp only [List.length_take,List.length_drop,List.length_append,List.length_cons,List.length_nil,List.length_set,List.length_map];omega)|decide) hrowsfRowsrs (by first|omega|(simp only [List.length_take,List.length_drop,List.length_append,List.length_cons,List.length_nil,List.length_set,List.length_map];omega)|decide) (by first|omega|(simp only [List.length_take,List.length_drop,List.length_append,List.length_cons,List.length_nil,List.length_set,List.length_map];omega)|decide) (by exact hpm) y3 hy3) rfl rfl rfl rfl rfl (A2.pick [2,3,0,1] rfl) (H3 [[bx b10 (A0 f ⟨fQ,fR.length,fK⟩) 106],[bx b7 (A0 g ⟨gRowsq,gRows.length,gRowsk⟩) 26],[bx b5 (A0 f ⟨fQ,fR.length,fK⟩) 26],[bx b4 (A0 FrmC.zero ⟨none,0,0⟩) 26],[bx b3 (L7 at_) 24],[bx b2 (A0 g ⟨gRowsq,gRows.length,gRowsk⟩) 26],[bx b1 (A0 f ⟨fQ,fR.length,fK⟩) 26]] [4,5,6,0,1,2,3] 7 rfl (by decide) rfl [[bx b3 (L7 at_) 24],[bx b2 (A0 g ⟨gRowsq,gRows.length,gRowsk⟩) 26],[bx b1 (A0 f ⟨fQ,fR.length,fK⟩) 26],[bx b10 (A0 f ⟨fQ,fR.length,fK⟩) 106],[bx b7 (A0 g ⟨gRowsq,gRows.length,gRowsk⟩) 26],[bx b5 (A0 f ⟨fQ,fR.length,fK⟩) 26],[bx b4 (A0 FrmC.zero ⟨none,0,0⟩) 26]] rfl (by first|rfl|simp only [List.flatten_cons,List.flatten_nil,List.append_nil,List.cons_append,List.nil_append,List.append_assoc])) (fun ⟨⟨r11,rs12⟩,hp15⟩=>(bx b3 (L7 at_) 24::bx b2 (A0 g ⟨gRowsq,gRows.length,gRowsk⟩) 26::bx b1 (A0 f ⟨fQ,fR.length,fK⟩) 26::bx b10 (A0 f ⟨fQ,fR.length,fK⟩) 106::bx b7 (A0 g ⟨gRowsq,gRows.length,gRowsk⟩) 26::bx b5 (A0 f ⟨fQ,fR.length,fK⟩) 26::bx b4 (A0 FrmC.zero ⟨none,0,0⟩) 26::(vo C4 69 r11 rs12)++([]))) (fun ⟨⟨r11,rs12⟩,hp15⟩=>H3 [[bx b3 (L7 at_) 24],[bx b2 (A0 g ⟨gRowsq,gRows.length,gRowsk⟩) 26],[bx b1 (A0 f ⟨fQ,fR.length,fK⟩) 26],vo C4 69 r11 rs12,[bx b10 (A0 f ⟨fQ,fR.length,fK⟩) 106],[bx b7 (A0 g ⟨gRowsq,gRows.length,gRowsk⟩) 26],[bx b5 (A0 f ⟨fQ,fR.length,fK⟩) 26],[bx b4 (A0 FrmC.zero ⟨none,0,0⟩) 26]] [0,1,2,4,5,6,7,3] 8 rfl (by decide) (by first|rfl|simp only [List.flatten_cons,List.flatten_nil,List.append_nil,List.cons_append,List.nil_append,List.append_assoc]) [[bx b3 (L7 at_) 24],[bx b2 (A0 g ⟨gRowsq,gRows.length,gRowsk⟩) 26],[bx b1 (A0 f ⟨fQ,fR.length,fK⟩) 26],[bx b10 (A0 f ⟨fQ,fR.length,fK⟩) 106],[bx b7 (A0 g ⟨gRowsq,gRows.length,gRowsk⟩) 26],[bx b5 (A0 f ⟨fQ,fR.length,fK⟩) 26],[bx b4 (A0 FrmC.zero ⟨none,0,0⟩) 26],vo C4 69 r11 rs12] rfl (by first|rfl|simp only [List.flatten_cons,List.flatten_nil,List.append_nil,List.cons_append,List.nil_append,List.append_assoc]))) fun ⟨⟨r11,rs12⟩,hp15⟩=>?_
 try dsimp only at hp15
 obtain ⟨hk13,hw14⟩:=hp15
 have:=VOk.le hk13
 have:=VOk.cap hk13
 have:=hw14.1
 have hw0:=A8f (fR.length:Int) at_ g gRows f fR hpm.2.2;rw [hy3] at hw0
 refine zrg 3 0 [3] [] (bx b3 (L7 at_) 24::bx b2 (A0 g ⟨gRowsq,gRows.length,gRowsk⟩) 26::bx b1 (A0 f ⟨fQ,fR.length,fK⟩) 26::bx b10 (A0 f ⟨va r11.q,y3.length,r11.k⟩) 106::bx b7 (A0 g ⟨gRowsq,gRows.length,gRowsk⟩) 26::bx b5 (A0 f ⟨fQ,fR.length,fK⟩) 26::bx b4 (A0 FrmC.zero ⟨none,0,0⟩) 26::(vo C4 69 r11 rs12)++([])) ?_
 refine ie (sr 1 rfl ?_)
 have hQ:=G6 hR;clear hR;obtain ⟨y1,hy1,hR⟩:=hQ
 refine it rfl (I5 (L2:=[bx b3 (L7 at_) 24,bx b2 (A0 g ⟨gRowsq,gRows.length,gRowsk⟩) 26,bx b1 (A0 f ⟨fQ,fR.length,fK⟩) 26,bx b7 (A0 g ⟨gRowsq,gRows.length,gRowsk⟩) 26,bx b5 (A0 f ⟨fQ,fR.length,fK⟩) 26,bx b4 (A0 FrmC.zero ⟨none,0,0⟩) 26]) (A3h f y3 b10 r11 rs12 hk13 hw14 (by exact hw0) y1 hy1) rfl rfl rfl rfl rfl (A2.pick [0] rfl) (H3 [[bx b3 (L7 at_) 24],[bx b2 (A0 g ⟨gRowsq,gRows.length,gRowsk⟩) 26],[bx b1 (A0 f ⟨fQ,fR.length,fK⟩) 26],[bx b10 (A0 f ⟨va r11.q,y3.length,r11.k⟩) 106],[bx b7 (A0 g ⟨gRowsq,gRows.length,gRowsk⟩) 26],[bx b5 (A0 f ⟨fQ,fR.length,fK⟩) 26],[bx b4 (A0 FrmC.zero ⟨none,0,0⟩) 26],vo C4 69 r11 rs12] [3,7,0,1,2,4,5,6] 8 rfl (by decide) rfl [[bx b10 (A0 f ⟨va r11.q,y3.length,r11.k⟩) 106],vo C4 69 r11 rs12,[bx b3 (L7 at_) 24],[bx b2 (A0 g ⟨gRowsq,gRows.length,gRowsk⟩) 26],[bx b1 (A0 f ⟨fQ,fR.length,fK⟩) 26],[bx b7 (A0 g ⟨gRowsq,gRows.length,gRowsk⟩) 26],[bx b5 (A0 f ⟨fQ,fR.length,fK⟩) 26],[bx b4 (A0 FrmC.zero ⟨none,0,0⟩) 26]] rfl (by first|rfl|simp only [List.flatten_cons,List.flatten_nil,List.append_nil,List.cons_append,List.nil_append,List.append_assoc])) (fun ⟨⟨r16,rs17⟩,hp20⟩=>(bx b10 (A0 f ⟨va r16.q,y1.length,r16.k⟩) 106::bx b3 (L7 at_) 24::bx b2 (A0 g ⟨gRowsq,gRows.length,gRowsk⟩) 26::bx b1 (A0 f ⟨fQ,fR.length,fK⟩) 26::bx b7 (A0 g ⟨gRowsq,gRows.length,gRowsk⟩) 26::bx b5 (A0 f ⟨fQ,fR.length,fK⟩) 26::bx b4 (A0 FrmC.zero ⟨none,0,0⟩) 26::(vo C4 69 r16 rs17)++([]))) (fun ⟨⟨r16,rs17⟩,hp20⟩=>H3 [[bx b10 (A0 f ⟨va r16.q,y1.length,r16.k⟩) 106],vo C4 69 r16 rs17,[bx b3 (L7 at_) 24],[bx b2 (A0 g ⟨gRowsq,gRows.length,gRowsk⟩) 26],[bx b1 (A0 f ⟨fQ,fR.length,fK⟩) 26],[bx b7 (A0 g ⟨gRowsq,gRows.length,gRowsk⟩) 26],[bx b5 (A0 f ⟨fQ,fR.length,fK⟩) 26],[bx b4 (A0 FrmC.zero ⟨none,0,0⟩) 26]] [0,2,3,4,5,6,7,1] 8 rfl (by decide) (by first|rfl|simp only [List.flatten_cons,List.flatten_nil,List.append_nil,List.cons_append,List.nil_append,List.append_assoc]) [[bx b10 (A0 f ⟨va r16.q,y1.length,r16.k⟩) 106],[bx b3 (L7 at_) 24],[bx b2 (A0 g ⟨gRowsq,gRows.length,gRowsk⟩) 26],[bx b1 (A0 f ⟨fQ,fR.length,fK⟩) 26],[bx b7 (A0 g ⟨gRowsq,gRows.length,gRowsk⟩) 26],[bx b5 (A0 f ⟨fQ,fR.length,fK⟩) 26],[bx b4 (A0 FrmC.zero ⟨none,0,0⟩) 26],vo C4 69 r16 rs17] rfl (by first|rfl|simp only [List.flatten_cons,List.flatten_nil,List.append_nil,List.cons_append,List.nil_append,List.append_assoc]))) fun ⟨⟨r16,rs17⟩,hp20⟩=>?_
 try dsimp only at hp20
 obtain ⟨hk18,hw19⟩:=hp20
 have:=VOk.le hk18
 have:=VOk.cap hk18
 have:=hw19.1
 refine ie (sr 4 rfl (zrg 4 0 [0,6] [(7,iv 0)] (bx b10 (A0 f ⟨va r16.q,y1.length,r16.k⟩) 106::bx b3 (L7 at_) 24::bx b2 (A0 g ⟨gRowsq,gRows.length,gRowsk⟩) 26::bx b1 (A0 f ⟨fQ,fR.length,fK⟩) 26::bx b7 (A0 g ⟨gRowsq,gRows.length,gRowsk⟩) 26::bx b5 (A0 f ⟨fQ,fR.length,fK⟩) 26::bx b4 (A0 f ⟨va r16.q,y1.length,r16.k⟩) 26::(vo C4 69 r16 rs17)++([])) ?_))
 subst hR
 refine ie (A7 ?_)
 exact zer hr hD (V5 rfl (I1 (us:=A0 f ⟨va r16.q,y1.length,r16.k⟩) A7f rfl 6 rfl rfl rfl) (B1 rfl)) ⟨(r16,rs17),⟨hk18,hw19⟩⟩ (mc [[bx b10 (A0 f ⟨va r16.q,y1.length,r16.k⟩) 106],[bx b3 (L7 at_) 24],[bx b2 (A0 g ⟨gRowsq,gRows.length,gRowsk⟩) 26],[bx b1 (A0 f ⟨fQ,fR.length,fK⟩) 26],[bx b7 (A0 g ⟨gRowsq,gRows.length,gRowsk⟩) 26],[bx b5 (A0 f ⟨fQ,fR.length,fK⟩) 26],[bx b4 (A0 f ⟨va r16.q,y1.length,r16.k⟩) 26],vo C4 69 r16 rs17] [false,false,false,false,false,false,false,true] rfl (by first|rfl|(simp only [List.length_set]<;>rfl))) (A2.con1 (B5 0 rfl) fn0)
end Go.Proofs.YthcjfkljekdioaaGreatDoor
