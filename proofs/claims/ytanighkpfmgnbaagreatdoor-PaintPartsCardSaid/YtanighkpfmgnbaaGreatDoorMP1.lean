import Derived.Test.YtanighkpfmgnbaaGreatDoorProg
import Derived.Test.YtanighkpfmgnbaaGreatDoorMA2
import Derived.Test.YtanighkpfmgnbaaGreatDoorMB1
import Derived.Test.YtanighkpfmgnbaaGreatDoorMA3
import Derived.Test.YtanighkpfmgnbaaGreatDoorMB2
import Derived.Test.YtanighkpfmgnbaaGreatDoorMB3
set_option linter.unusedVariables false
set_option linter.unusedSimpArgs false
set_option linter.unnecessarySimpa false
set_option maxRecDepth 100000
namespace Go.Proofs.YtanighkpfmgnbaaGreatDoor
open Go Go.Fen
theorem B0y:ApTy Tryz.prog 27 26 6 56:=⟨by kernel_rfl,by kernel_rfl,rfl⟩
theorem D0r:EqT Tryz.prog 67 A4:=EqT.of 20 rfl (by kernel_rfl) (by kernel_rfl) (fun _ _=>by kernel_rfl) A4.inj
theorem D0q:Ty Tryz.prog 27 1 false:=⟨by kernel_rfl⟩
theorem B5d:Ty Tryz.prog 67 8 true:=⟨by kernel_rfl⟩
theorem D9t:Ty Tryz.prog 305 5 true:=⟨by kernel_rfl⟩
def D2m (a:Act):Prop:=a.kind=39∧a.text=[]
def A3n (what:Int) (m:Int) (c:Col):List Act :=
 (([]:List Act)++([{Act.zero with kind:=39,n:=what,m:=m,color:=c}]:List Act))
theorem C1s (what m:Int) (c:Col):(A3n what m c).length=1:=by
 unfold A3n;simp
theorem C5g (what:Int) (m:Int) (c:Col) (rb:Nat) (hn:([]:List Act).length≤2000) (R:List Act) (hR:A3n what m c=R):Con Tryz.prog 240 [pt rb 0,iv what,iv m,ag (K3 c)] [bx rb [.slice none 0 0] 302] [] ({r:VR // VOk 6 R.length r}) (fun x=>.tuple #[]) (fun x=>(bx rb [.slice (va x.1.q) R.length x.1.k] 302::(vo A0 26 x.1 R)++([]))) (fun x=>[]):=by
 refine zco Tryz.func240 [(0,pt rb 0),(1,iv what),(2,iv m),(3,ag (K3 c))] fun X hX hr hD=>?_
 replace hR:=(A3n.eq_1 ..).symm.trans hR
 refine sr 1 rfl (M8 1 0 [] (fun b1=>[(7,pt b1 0)]) (fun b1=>[bx b1 (K3 c) 24,bx rb [.slice none 0 0] 302]) (fun b1=>(ie (sh' 16 [(16,[bx b1 (K3 c) 24]),(15,[bx rb [.slice none 0 0] 302])] [] [bx b1 (K3 c) 24,bx rb [.slice none 0 0] 302] (zml 16 0) (by kernel_rfl) rfl (by kernel_rfl) (by kernel_rfl) (by kernel_rfl) (mk [true,true] rfl) A2.refl ?_))))
 refine zhp [0,1,2,3,4,6,7] 9 (zml 16 223) [(8,pt rb 0),(12,pt rb 0),(14,iv what),(15,iv m)] ?_
 refine zhl 5 [bx b1 (K3 c) 24,bx rb [.slice none 0 0] 302] (zml 16 255) rfl (B2 (v:=.slice none 0 0) D0q rfl rfl 1 rfl rfl) ?_
 refine zhl 8 [bx b1 (K3 c) 24,bx rb [.slice none 0 0] 302] (zml 16 511) rfl (F6 (us:=K3 c) B2d rfl rfl 0 rfl rfl rfl) ?_
 refine zhk 9 (zml 16 1023) rfl (A1l (cs:=A0 ({Act.zero with kind:=39,n:=what,m:=m,color:=c})) rfl rfl (by kernel_rfl)) ?_
 refine zho 10 [bx b1 (K3 c) 24,bx rb [.slice none 0 0] 302] (zml 16 2047) rfl (C0 (c:=A0) (xs:=([{Act.zero with kind:=39,n:=what,m:=m,color:=c}]:List Act)) A1n rfl rfl rfl (by kernel_rfl)) (fun b2=>(mk [true,true] rfl)) (fun b2=>fn0) fun b2=>?_
 have:([{Act.zero with kind:=39,n:=what,m:=m,color:=c}]:List Act).length=1:=rfl
 refine zho 11 [bx b1 (K3 c) 24,bx rb [.slice none 0 0] 302] (zml 16 4095) rfl (X9 (f:=A0) (r:=VR.nil) (xs:=([]:List Act)) (ys:=([{Act.zero with kind:=39,n:=what,m:=m,color:=c}]:List Act)) (pre:=[bx b1 (K3 c) 24,bx rb [.slice none 0 0] 302]) (post:=[]) B0y (fun _=>rfl) (fun _=>rfl) rfl rfl rfl rfl rfl rfl rfl rfl rfl (B0 0 rfl) VOk.nil (by first|omega|(simp<;>omega)) (by first|omega|(simp<;>omega))) (fun ⟨r3,hr4⟩=>(mc [[bx b1 (K3 c) 24],[bx rb [.slice none 0 0] 302],vo A0 26 r3 (([]:List Act)++([{Act.zero with kind:=39,n:=what,m:=m,color:=c}]:List Act))] [true,true,false] rfl (by first|rfl|(simp only [List.length_set]<;>rfl)))) (fun ⟨r3,hr4⟩=>fn0) fun ⟨r3,hr4⟩=>?_
 have:=VOk.le hr4
 have:=VOk.cap hr4
 refine zhp [12,13,14] 1 (zml 16 32767) [(22,pt rb 0)] ?_
 refine zho 15 [bx b1 (K3 c) 24] (zml 16 65535) rfl (N4 (us:=[.slice (va r3.q) ((([]:List Act)++([{Act.zero with kind:=39,n:=what,m:=m,color:=c}]:List Act)).length) r3.k]) (cs':=[.slice (va r3.q) ((([]:List Act)++([{Act.zero with kind:=39,n:=what,m:=m,color:=c}]:List Act)).length) r3.k]) D0q rfl rfl rfl 1 rfl rfl rfl rfl rfl rfl) (fun _=>(mc [[bx b1 (K3 c) 24],[bx rb [.slice (va r3.q) ((([]:List Act)++([{Act.zero with kind:=39,n:=what,m:=m,color:=c}]:List Act)).length) r3.k] 302],vo A0 26 r3 (([]:List Act)++([{Act.zero with kind:=39,n:=what,m:=m,color:=c}]:List Act))] [true,false,false] rfl (by first|rfl|(simp only [List.length_set]<;>rfl)))) (fun _=>fn0) fun _=>?_
 refine B5r (by kernel_rfl) ?_
 subst hR
 exact zen hr hD (B8b rfl) ⟨r3,hr4⟩ (mc [[bx b1 (K3 c) 24],[bx rb [.slice (va r3.q) ((([]:List Act)++([{Act.zero with kind:=39,n:=what,m:=m,color:=c}]:List Act)).length) r3.k] 302],vo A0 26 r3 (([]:List Act)++([{Act.zero with kind:=39,n:=what,m:=m,color:=c}]:List Act))] [false,true,true] rfl (by first|rfl|(simp only [List.length_set]<;>rfl))) fn0
def S1 (r:List Act) (what:Int) (m:Int) (c:Col):List Act :=
 (r++([{Act.zero with kind:=39,n:=what,m:=m,color:=c}]:List Act))
theorem Z4 (r:List Act) (what m:Int) (c:Col):(S1 r what m c).length=r.length+1:=by
 unfold S1;simp
theorem A1f (r:List Act) (what:Int) (m:Int) (c:Col) (rb:Nat) (rr:VR) (hokrr:VOk 6 r.length rr) (hn:r.length≤2000) (R:List Act) (hR:S1 r what m c=R):Con Tryz.prog 240 [pt rb 0,iv what,iv m,ag (K3 c)] (bx rb [.slice (va rr.q) r.length rr.k] 302::(vo A0 26 rr r)++([])) [] ({r:VR // VOk 6 R.length r}) (fun x=>.tuple #[]) (fun x=>(bx rb [.slice (va x.1.q) R.length x.1.k] 302::(vo A0 26 x.1 R)++([]))) (fun x=>[]):=by
 refine zco Tryz.func240 [(0,pt rb 0),(1,iv what),(2,iv m),(3,ag (K3 c))] fun X hX hr hD=>?_
 replace hR:=(S1.eq_1 ..).symm.trans hR
 have:=VOk.le hokrr
 refine sr 1 rfl (M8 1 0 [] (fun b1=>[(7,pt b1 0)]) (fun b1=>(bx b1 (K3 c) 24::bx rb [.slice (va rr.q) r.length rr.k] 302::(vo A0 26 rr r)++([]))) (fun b1=>(ie ?_)))
 refine sh' 16 [(16,[bx b1 (K3 c) 24]),(15,[bx rb [.slice (va rr.q) r.length rr.k] 302]),(11,vo A0 26 rr r)] [] (bx b1 (K3 c) 24::bx rb [.slice (va rr.q) r.length rr.k] 302::(vo A0 26 rr r)++([])) (zml 16 0) (by kernel_rfl) rfl (by kernel_rfl) (by kernel_rfl) (by kernel_rfl) (mc [[bx b1 (K3 c) 24],[bx rb [.slice (va rr.q) r.length rr.k] 302],vo A0 26 rr r] [true,true,true] rfl (by first|rfl|(simp only [List.length_set]<;>rfl))) A2.refl ?_
 refine zhp [0,1,2,3,4,6,7] 9 (zml 16 223) [(8,pt rb 0),(12,pt rb 0),(14,iv what),(15,iv m)] ?_
 refine zhl 5 (bx b1 (K3 c) 24::bx rb [.slice (va rr.q) r.length rr.k] 302::(vo A0 26 rr r)++([])) (zml 16 255) rfl (B2 (v:=.slice (va rr.q) r.length rr.k) D0q rfl rfl 1 rfl rfl) ?_
 refine zhl 8 [bx b1 (K3 c) 24,bx rb [.slice (va rr.q) r.length rr.k] 302] (zml 16 511) rfl (F6 (us:=K3 c) B2d rfl rfl 0 rfl rfl rfl) ?_
 refine zhk 9 (zml 16 1023) rfl (A1l (cs:=A0 ({Act.zero with kind:=39,n:=what,m:=m,color:=c})) rfl rfl (by kernel_rfl)) ?_
 refine zho 10 (bx b1 (K3 c) 24::bx rb [.slice (va rr.q) r.length rr.k] 302::(vo A0 26 rr r)++([])) (zml 16 2047) rfl (C0 (c:=A0) (xs:=([{Act.zero with kind:=39,n:=what,m:=m,color:=c}]:List Act)) A1n rfl rfl rfl (by kernel_rfl)) (fun b2=>(mc [[bx b1 (K3 c) 24],[bx rb [.slice (va rr.q) r.length rr.k] 302],vo A0 26 rr r] [true,true,true] rfl (by first|rfl|(simp only [List.length_set]<;>rfl)))) (fun b2=>fn0) fun b2=>?_
 have:([{Act.zero with kind:=39,n:=what,m:=m,color:=c}]:List Act).length=1:=rfl
 refine zho 11 [bx b1 (K3 c) 24,bx rb [.slice (va rr.q) r.length rr.k] 302] (zml 16 4095) rfl (X9 (f:=A0) (r:=rr) (xs:=r) (ys:=([{Act.zero with kind:=39,n:=what,m:=m,color:=c}]:List Act)) (pre:=[bx b1 (K3 c) 24,bx rb [.slice (va rr.q) r.length rr.k] 302]) (post:=[]) B0y (fun _=>rfl) (fun _=>rfl) rfl rfl rfl rfl rfl rfl rfl rfl rfl (B0 0 rfl) hokrr (by first|omega|(simp<;>omega)) (by first|omega|(simp<;>omega))) (fun ⟨r3,hr4⟩=>(mc [[bx b1 (K3 c) 24],[bx rb [.slice (va rr.q) r.length rr.k] 302],vo A0 26 r3 (r++([{Act.zero with kind:=39,n:=what,m:=m,color:=c}]:List Act))] [true,true,false] rfl (by first|rfl|(simp only [List.length_set]<;>rfl)))) (fun ⟨r3,hr4⟩=>fn0) fun ⟨r3,hr4⟩=>?_
 have:=VOk.le hr4
 have:=VOk.cap hr4
 refine zhp [12,13,14] 1 (zml 16 32767) [(22,pt rb 0)] ?_
 refine zho 15 [bx b1 (K3 c) 24] (zml 16 65535) rfl (N4 (us:=[.slice (va r3.q) ((r++([{Act.zero with kind:=39,n:=what,m:=m,color:=c}]:List Act)).length) r3.k]) (cs':=[.slice (va r3.q) ((r++([{Act.zero with kind:=39,n:=what,m:=m,color:=c}]:List Act)).length) r3.k]) D0q rfl rfl rfl 1 rfl rfl rfl rfl rfl rfl) (fun _=>(mc [[bx b1 (K3 c) 24],[bx rb [.slice (va r3.q) ((r++([{Act.zero with kind:=39,n:=what,m:=m,color:=c}]:List Act)).length) r3.k] 302],vo A0 26 r3 (r++([{Act.zero with kind:=39,n:=what,m:=m,color:=c}]:List Act))] [true,false,false] rfl (by first|rfl|(simp only [List.length_set]<;>rfl)))) (fun _=>fn0) fun _=>?_
 refine B5r (by kernel_rfl) ?_
 subst hR
 exact zen hr hD (B8b rfl) ⟨r3,hr4⟩ (mc [[bx b1 (K3 c) 24],[bx rb [.slice (va r3.q) ((r++([{Act.zero with kind:=39,n:=what,m:=m,color:=c}]:List Act)).length) r3.k] 302],vo A0 26 r3 (r++([{Act.zero with kind:=39,n:=what,m:=m,color:=c}]:List Act))] [false,true,true] rfl (by first|rfl|(simp only [List.length_set]<;>rfl))) fn0
def A1p (bit:Int) (ag_pen_changes_l0:Int→List Act→List Act) (y16:List Act):List Act :=
 ag_pen_changes_l0 (bit * 2) y16
def A2o (y18:List Act):List Act :=
 y18
def A2k (from_:Sty) (to_:Sty) (y8:List Act):List Act :=
 (bif (!(decide (from_.line=to_.line))) then (B6 (S1 y8 6 0 to_.line) fun (y14:List Act)=>A2o y14) else A2o y8)
def A2i (from_:Sty) (to_:Sty) (y6:List Act):List Act :=
 (bif (!(decide (from_.back=to_.back))) then (B6 (S1 y6 5 0 to_.back) fun (y13:List Act)=>A2k from_ to_ y13) else A2k from_ to_ y6)
def A1h (from_:Sty) (to_:Sty) (y7:List Act):List Act :=
 (bif (!(decide (from_.fore=to_.fore))) then (B6 (S1 y7 4 0 to_.fore) fun (y11:List Act)=>A2i from_ to_ y11) else A2i from_ to_ y7)
def A1i (bit1:Int) (ag_pen_changes_l1:Int→List Act→List Act) (y17:List Act):List Act :=
 ag_pen_changes_l1 (bit1 * 2) y17
def O4 (from_:Sty) (to_:Sty) (has:Int):Nat→Int→List Act→List Act
 | 0,_,_=>[]
 | fu3+1,bit1,rlaid3=>(bif (decide ((255:Int)<bit1)) then (bif (!decide (from_.under=to_.under)) then (B6 (S1 rlaid3 3 to_.under Col.zero) fun (y12:List Act)=>A1h from_ to_ y12) else A1h from_ to_ rlaid3) else (bif ((!decide ((bOp .and .i64 to_.attr bit1)=0))&&(decide ((bOp .and .i64 has bit1)=0))) then (B6 (S1 rlaid3 1 bit1 Col.zero) fun (y10:List Act)=>A1i bit1 (O4 from_ to_ has fu3) y10) else A1i bit1 (O4 from_ to_ has fu3) rlaid3))
def P5 (from_:Sty) (to_:Sty) (has:Int):Nat→Int→List Act→List Act
 | 0,_,_=>[]
 | fu1+1,bit,rlaid1=>(bif (decide (bit≤255)) then (bif ((!decide ((bOp .and .i64 has bit)=0))&&(decide ((bOp .and .i64 to_.attr bit)=0))) then (B6 (S1 rlaid1 2 bit Col.zero) fun (y1:List Act)=>A1p bit (P5 from_ to_ has fu1) y1) else A1p bit (P5 from_ to_ has fu1) rlaid1) else O4 from_ to_ has (((512:Int) - 1).toNat+1) 1 rlaid1)
def W4 (from_:Sty) (to_:Sty) (has:Int) (rlaid:List Act):List Act :=
 P5 from_ to_ has (((512:Int) - 1).toNat+1) 1 rlaid
def A3z (from_:Sty) (to_:Sty):List Act :=
 (bif (!decide ((bOp .and .i64 (bOp .andNot .i64 from_.attr to_.attr) 3)=0)) then (B6 (A3n 2 3 Col.zero) fun (y0:List Act)=>W4 from_ to_ (bOp .andNot .i64 from_.attr 3) y0) else W4 from_ to_ from_.attr ([]:List Act))
def kA (n m:Int):Act:={Act.zero with kind:=39,n:=n,m:=m}
def kC (n:Int) (c:Col):Act:={Act.zero with kind:=39,n:=n,color:=c}
def A4a (c:Bool) (a:Act):List Act:=bif c then [a] else []
def C5z:List Int:=[1,2,4,8,16,32,64,128]
def D9j (has:Int) (t:Sty) (b:Int):Bool:=(!decide ((bOp .and .i64 has b)=0))&&(decide ((bOp .and .i64 t.attr b)=0))
def D6n (has:Int) (t:Sty) (b:Int):Bool:=(!decide ((bOp .and .i64 t.attr b)=0))&&(decide ((bOp .and .i64 has b)=0))
def D5o (has:Int) (t:Sty):List Act:=C5z.flatMap fun b=>A4a (D9j has t b) (kA 2 b)
def D0k (has:Int) (t:Sty):List Act:=C5z.flatMap fun b=>A4a (D6n has t b) (kA 1 b)
def B8n (f t:Sty):List Act:=A4a (!decide (f.under=t.under)) (kA 3 t.under)++(A4a (!decide (f.fore=t.fore)) (kC 4 t.fore)++(A4a (!decide (f.back=t.back)) (kC 5 t.back)++A4a (!decide (f.line=t.line)) (kC 6 t.line)))
def D4m (f t:Sty):Bool:=!decide ((bOp .and .i64 (bOp .andNot .i64 f.attr t.attr) 3)=0)
def D6v (f t:Sty):Int:=bif D4m f t then bOp .andNot .i64 f.attr 3 else f.attr
def chg (f t:Sty):List Act:=A4a (D4m f t) (kA 2 3)++(D5o (D6v f t) t++(D0k (D6v f t) t++B8n f t))
theorem C5v {c:Bool} {a x:Act} (h:x ∈ A4a c a):x=a:=by cases c<;>simp [A4a] at h;exact h
theorem D5a (c:Bool) (a:Act):(A4a c a).length≤1:=by cases c<;>simp [A4a]
theorem B1a (f t:Sty) (l:List Act):A1h f t l=l++(A4a (!decide (f.fore=t.fore)) (kC 4 t.fore)++(A4a (!decide (f.back=t.back)) (kC 5 t.back)++A4a (!decide (f.line=t.line)) (kC 6 t.line))):=by
 unfold A1h A2i A2k A2o
 simp only [B6,S1]
 generalize decide (f.fore=t.fore)=a
 generalize decide (f.back=t.back)=b
 generalize decide (f.line=t.line)=c
 cases a<;>cases b<;>cases c<;>simp [A4a,kC,Act.zero]
theorem O9 (f t:Sty) (has:Int) (F:Nat) (b:Int) (l:List Act) (hb:b≤255):O4 f t has (F+1) b l=O4 f t has F (b * 2) (l++A4a (D6n has t b) (kA 1 b)):=by
 rw [O4,decide_eq_false (by omega:¬ (255:Int)<b),cond_false]
 show (bif D6n has t b then _ else _)=_
 cases D6n has t b with
 | true=>simp only [cond_true,B6,A1i];rfl
 | false=>simp only [cond_false,A1i,A4a,List.append_nil]
theorem B7h (f t:Sty) (has:Int) (F:Nat) (l:List Act):O4 f t has (F+1) 256 l=l++B8n f t:=by
 rw [O4,decide_eq_true (by omega:(255:Int)<256),cond_true]
 unfold B8n
 cases decide (f.under=t.under) with
 | true=>simp only [Bool.not_true,cond_false,B1a,A4a,List.nil_append]
 | false=>simp only [Bool.not_false,cond_true,B6,B1a,A4a,S1,List.append_assoc];rfl
theorem B8o (f t:Sty) (has:Int) (F:Nat) (hF:9≤F) (l:List Act):O4 f t has F 1 l=l++(D0k has t++B8n f t):=by
 obtain ⟨G,rfl⟩:∃ G,F=G+1+1+1+1+1+1+1+1+1:=⟨F - 9,by omega⟩
 rw [O9 _ _ _ _ _ _ (by omega),O9 _ _ _ _ _ _ (by omega),O9 _ _ _ _ _ _ (by omega),O9 _ _ _ _ _ _ (by omega),O9 _ _ _ _ _ _ (by omega),O9 _ _ _ _ _ _ (by omega),O9 _ _ _ _ _ _ (by omega),O9 _ _ _ _ _ _ (by omega)]
 rw [show (1:Int) * 2 * 2 * 2 * 2 * 2 * 2 * 2 * 2=256 by omega,B7h]
 unfold D0k C5z
 simp only [List.flatMap_cons,List.flatMap_nil,List.append_assoc,List.append_nil,List.nil_append]
 rfl
theorem O8 (f t:Sty) (has:Int) (F:Nat) (b:Int) (l:List Act) (hb:b≤255):P5 f t has (F+1) b l=P5 f t has F (b * 2) (l++A4a (D9j has t b) (kA 2 b)):=by
 rw [P5,decide_eq_true hb,cond_true]
 generalize ((512:Int) - 1).toNat+1=Z
 show (bif D9j has t b then _ else _)=_
 cases D9j has t b with
 | true=>simp only [cond_true,B6,A1p];rfl
 | false=>simp only [cond_false,A1p,A4a,List.append_nil]
theorem B6q (f t:Sty) (has:Int) (F:Nat) (l:List Act):P5 f t has (F+1) 256 l=l++(D0k has t++B8n f t):=by
 rw [P5,decide_eq_false (by omega:¬ (256:Int)≤255),cond_false]
 generalize hF:((512:Int) - 1).toNat+1=Z
 exact B8o f t has Z (by omega) l
theorem B0v (f t:Sty) (has:Int) (l:List Act):W4 f t has l=l++(D5o has t++(D0k has t++B8n f t)):=by
 rw [W4]
 generalize hF:((512:Int) - 1).toNat+1=F
 obtain ⟨G,rfl⟩:∃ G,F=G+1+1+1+1+1+1+1+1+1:=⟨F - 9,by omega⟩
 clear hF
 rw [O8 _ _ _ _ _ _ (by omega),O8 _ _ _ _ _ _ (by omega),O8 _ _ _ _ _ _ (by omega),O8 _ _ _ _ _ _ (by omega),O8 _ _ _ _ _ _ (by omega),O8 _ _ _ _ _ _ (by omega),O8 _ _ _ _ _ _ (by omega),O8 _ _ _ _ _ _ (by omega)]
 rw [show (1:Int) * 2 * 2 * 2 * 2 * 2 * 2 * 2 * 2=256 by omega,B6q]
 unfold D5o C5z
 simp only [List.flatMap_cons,List.flatMap_nil,List.append_assoc,List.append_nil,List.nil_append]
 rfl
theorem C2a (f t:Sty) (X:List Act) (c:Bool) (hc:D4m f t=c) (h:(bif c then (B6 (A3n 2 3 Col.zero) fun (r:List Act)=>W4 f t (bOp .andNot .i64 f.attr 3) r) else W4 f t f.attr ([]:List Act))=X):X=chg f t:=by
 unfold chg D6v
 rw [hc]
 clear hc
 cases c with
 | true=>rw [cond_true] at h;obtain ⟨r,hr,h⟩:=D0 h;rw [B0v] at h;rw [← h,← hr,cond_true];unfold A3n A4a kA;rw [cond_true,List.nil_append];rfl
 | false=>rw [cond_false,B0v] at h;rw [← h,cond_false];unfold A4a;rw [cond_false]
theorem A3s (f t:Sty):A3z f t=chg f t:=C2a f t _ _ rfl (A3z.eq_1 f t).symm
theorem C6v (f t:Sty):(chg f t).length≤21:=by
 have h:=D5a
 unfold chg D5o D0k B8n C5z
 simp only [List.flatMap_cons,List.flatMap_nil,List.length_append,List.length_nil]
 have h0:=h (D4m f t) (kA 2 3)
 have hc:=fun b=>h (D9j (D6v f t) t b) (kA 2 b)
 have hs:=fun b=>h (D6n (D6v f t) t b) (kA 1 b)
 have c1:=hc 1;have c2:=hc 2;have c3:=hc 4;have c4:=hc 8;have c5:=hc 16;have c6:=hc 32;have c7:=hc 64;have c8:=hc 128
 have s1:=hs 1;have s2:=hs 2;have s3:=hs 4;have s4:=hs 8;have s5:=hs 16;have s6:=hs 32;have s7:=hs 64;have s8:=hs 128
 have u:=h (!decide (f.under=t.under)) (kA 3 t.under);have v:=h (!decide (f.fore=t.fore)) (kC 4 t.fore);have w:=h (!decide (f.back=t.back)) (kC 5 t.back);have x:=h (!decide (f.line=t.line)) (kC 6 t.line)
 omega
theorem D3o (f t:Sty):∀ a ∈ chg f t,D2m a:=by
 intro a ha
 have hp:∀ n m,D2m (kA n m):=fun n m=>⟨rfl,rfl⟩
 have hq:∀ n c,D2m (kC n c):=fun n c=>⟨rfl,rfl⟩
 unfold chg D5o D0k B8n at ha
 simp only [List.mem_append,List.mem_flatMap] at ha
 rcases ha with h | ⟨b,_,h⟩ | ⟨b,_,h⟩|h|h|h|h<;>(rw [C5v h];first|exact hp _ _|exact hq _ _)
theorem B3r (f t:Sty):(A3z f t).length≤1100:=by rw [A3s];have:=C6v f t;omega
theorem B6k (from_:Sty) (to_:Sty) (R:List Act) (hR:A3z from_ to_=R):Con Tryz.prog 230 [ag (A4 from_),ag (A4 to_)] [] [] ({r:VR // VOk 6 R.length r}) (fun x=>.slice (va x.1.q) R.length x.1.k) (fun x=>((vo A0 26 x.1 R)++([]))) (fun x=>[]):=by
 refine zco Tryz.func230 [(0,ag (A4 from_)),(1,ag (A4 to_))] fun X hX hr hD=>?_
 replace hR:=(A3z.eq_1 ..).symm.trans hR
 refine sr 3 rfl (B9a 3 0 [] (fun b1 b2=>[(2,pt b1 0),(3,pt b2 0)]) (fun b1 b2=>[bx b2 (A4 to_) 67,bx b1 (A4 from_) 67]) (fun b1 b2=>(ie (C7x (sr 3 rfl (M8 3 0 [] (fun b3=>[(5,pt b3 0)]) (fun b3=>[bx b3 [.slice none 0 0] 302,bx b2 (A4 to_) 67,bx b1 (A4 from_) 67]) (fun b3=>(ie (sr 3 rfl (ip' 3 0 [(6,.func (.func 240) #[pt b3 0] #[])] (ie (sr 3 rfl (zrl 3 0 [2] [(7,iv from_.attr)] ?_)))))))))))))
 refine ie (E2w (fun (has:Int) (rlaid:List Act) (rlaidr:VR)=>(W4 from_ to_ has rlaid=R∧VOk 6 rlaid.length rlaidr∧rlaid.length≤1,[(2,pt b1 0),(3,pt b2 0),(5,pt b3 0),(6,.func (.func 240) #[pt b3 0] #[]),(7,iv has)],(bx b3 [.slice (va rlaidr.q) rlaid.length rlaidr.k] 302::bx b2 (A4 to_) 67::bx b1 (A4 from_) 67::(vo A0 26 rlaidr rlaid)++([])),[])) ?_ ?_)
 ·refine sr 6 rfl (zrl 6 0 [2,1] [(8,iv (bOp .andNot .i64 from_.attr to_.attr))] (ie (sr 3 rfl (ip' 3 0 [(26,bv (!decide ((bOp .and .i64 (bOp .andNot .i64 from_.attr to_.attr) 3)=0)))] (ie ?_)))))
  refine zjn rfl hR ?_ ?_<;>clear hR<;>intro hR h4 h4p
  ·refine sr 3 rfl (zrl 2 1 [] [(27,.func (.func 240) #[pt b3 0] #[]),(28,ag (K3 Col.zero))] ?_)
   have hQ:=D0 hR;clear hR;obtain ⟨y0,hy0,hR⟩:=hQ
   refine it rfl (G8 (L2:=[bx b2 (A4 to_) 67,bx b1 (A4 from_) 67]) (C5g 2 3 Col.zero b3 (by first|omega|(simp<;>omega)) y0 hy0) rfl rfl rfl rfl rfl fn0 (F8 [[bx b3 [.slice none 0 0] 302],[bx b2 (A4 to_) 67],[bx b1 (A4 from_) 67]] [0,1,2] 3 rfl (by decide) rfl [[bx b3 [.slice none 0 0] 302],[bx b2 (A4 to_) 67],[bx b1 (A4 from_) 67]] rfl (by first|rfl|simp)) (fun ⟨r5,hk6⟩=>(bx b3 [.slice (va r5.q) y0.length r5.k] 302::bx b2 (A4 to_) 67::bx b1 (A4 from_) 67::(vo A0 26 r5 y0)++([]))) (fun ⟨r5,hk6⟩=>F8 [[bx b3 [.slice (va r5.q) y0.length r5.k] 302],vo A0 26 r5 y0,[bx b2 (A4 to_) 67],[bx b1 (A4 from_) 67]] [0,2,3,1] 4 rfl (by decide) (by first|rfl|simp) [[bx b3 [.slice (va r5.q) y0.length r5.k] 302],[bx b2 (A4 to_) 67],[bx b1 (A4 from_) 67],vo A0 26 r5 y0] rfl (by first|rfl|simp))) fun ⟨r5,hk6⟩=>?_
   have:=VOk.le hk6
   have:=VOk.cap hk6
   have:=C1s 2 3 Col.zero;try rw [hy0] at this
   refine ie (A5 3 rfl (ip' 3 0 [(7,iv (bOp .andNot .i64 from_.attr 3))] (A7 ?_)))
   exact D6a (bOp .andNot .i64 from_.attr 3) y0 r5 ⟨hR,hk6,(by first|omega|(simp<;>omega))⟩ (mc [[bx b3 [.slice (va r5.q) y0.length r5.k] 302],[bx b2 (A4 to_) 67],[bx b1 (A4 from_) 67],vo A0 26 r5 y0] [true,true,true,true] rfl (by first|rfl|(simp only [List.length_set]<;>rfl))) fn0
  refine B1 (A3e (F8 [vo A0 26 VR.nil ([]:List Act),[bx b3 [.slice none 0 0] 302],[bx b2 (A4 to_) 67],[bx b1 (A4 from_) 67]] [1,2,3,0] 4 rfl (by decide) rfl [[bx b3 [.slice none 0 0] 302],[bx b2 (A4 to_) 67],[bx b1 (A4 from_) 67],vo A0 26 VR.nil ([]:List Act)] rfl (by first|rfl|simp)) ?_)
  exact D6a from_.attr ([]:List Act) VR.nil ⟨hR,VOk.nil,(by first|omega|(simp<;>omega))⟩ (mc [[bx b3 [.slice none 0 0] 302],[bx b2 (A4 to_) 67],[bx b1 (A4 from_) 67],vo A0 26 VR.nil ([]:List Act)] [true,true,true,true] rfl (by first|rfl|(simp only [List.length_set]<;>rfl))) fn0
 intro has rlaid rlaidr
 rintro ⟨hR,hokrlaidr,hj⟩
 replace hR:=(W4.eq_1 ..).symm.trans hR
 refine A8 (sr 1 rfl (ip' 1 0 [(9,iv 1)] ?_))
 refine ie (B4 ?_)
 refine C3e (fun (fu:Nat) (bit:Int) (rlaid1:List Act) (rlaidr1:VR)=>(((512:Int) - bit).toNat<fu∧P5 from_ to_ has fu bit rlaid1=R∧VOk 6 rlaid1.length rlaidr1∧1≤bit∧bit≤510∧rlaid1.length≤bit,[(2,pt b1 0),(3,pt b2 0),(5,pt b3 0),(6,.func (.func 240) #[pt b3 0] #[]),(7,iv has),(9,iv bit)],(bx b3 [.slice (va rlaidr1.q) rlaid1.length rlaidr1.k] 302::bx b2 (A4 to_) 67::bx b1 (A4 from_) 67::(vo A0 26 rlaidr1 rlaid1)++([])),[],fu)) (((512:Int) - 1).toNat+1) 1 rlaid rlaidr ⟨(Nat.lt_succ_self _),hR,hokrlaidr,(by omega),(by first|omega|(simp<;>omega))⟩ (mc [[bx b3 [.slice (va rlaidr.q) rlaid.length rlaidr.k] 302],[bx b2 (A4 to_) 67],[bx b1 (A4 from_) 67],vo A0 26 rlaidr rlaid] [true,true,true,true] rfl (by first|rfl|(simp only [List.length_set]<;>rfl))) fn0 ?_
 rintro fu bit rlaid1 rlaidr1 ⟨hm7,hR,hokrlaidr1,hb,hn⟩
 have:=VOk.le hokrlaidr1
 obtain ⟨fu1,rfl⟩:∃ m,fu=m+1:=⟨fu - 1,by omega⟩
 replace hR:=(P5.eq_2 ..).symm.trans hR
 refine A8 (sr 2 rfl (ip' 2 0 [(33,bv (decide (bit≤255)))] ?_))
 refine ie ?_
 refine zjd rfl hR ?_ ?_<;>clear hR<;>intro hR h8 h8p
 ·refine B1 (nx (D6k (fun (y16:List Act) (rlaidr2:VR)=>(A1p bit (P5 from_ to_ has fu1) y16=R∧VOk 6 y16.length rlaidr2∧y16.length≤bit+1,[(2,pt b1 0),(3,pt b2 0),(5,pt b3 0),(6,.func (.func 240) #[pt b3 0] #[]),(7,iv has),(9,iv bit)],(bx b3 [.slice (va rlaidr2.q) y16.length rlaidr2.k] 302::bx b2 (A4 to_) 67::bx b1 (A4 from_) 67::(vo A0 26 rlaidr2 y16)++([])),[])) ?_ ?_))
  ·refine B4 (sr 11 rfl (ip' 5 6 [(40,bv (!decide ((bOp .and .i64 has bit)=0)))] ?_))
   refine zia 6 0 40 46 (decide ((bOp .and .i64 to_.attr bit)=0)) (fun g9=>?_) ?_
   ·have g9p:¬ (bOp .and .i64 has bit)=0:=by simpa using g9
    refine zrl 6 0 [1] [(46,bv (decide ((bOp .and .i64 to_.attr bit)=0)))] ?_
    exact A7 (U9 2 40 46 g9 fn0 (mc [[bx b3 [.slice (va rlaidr1.q) rlaid1.length rlaidr1.k] 302],[bx b2 (A4 to_) 67],[bx b1 (A4 from_) 67],vo A0 26 rlaidr1 rlaid1] [true,true,true,true] rfl (by first|rfl|(simp only [List.length_set]<;>rfl))) rfl rfl rfl rfl rfl)
   refine ie ?_
   refine zjb rfl hR ?_ ?_<;>clear hR<;>intro hR h10
   ·have h10p:(¬ (bOp .and .i64 has bit)=0)∧((bOp .and .i64 to_.attr bit)=0):=by simpa using h10
    refine A5 4 rfl (zrl 3 1 [] [(47,.func (.func 240) #[pt b3 0] #[]),(48,iv bit),(49,ag (K3 Col.zero))] ?_)
    have hQ:=D0 hR;clear hR;obtain ⟨y1,hy1,hR⟩:=hQ
    refine it rfl (G8 (L2:=[bx b2 (A4 to_) 67,bx b1 (A4 from_) 67]) (A1f rlaid1 2 bit Col.zero b3 rlaidr1 hokrlaidr1 (by first|omega|(simp<;>omega)) y1 hy1) rfl rfl rfl rfl rfl fn0 (F8 [[bx b3 [.slice (va rlaidr1.q) rlaid1.length rlaidr1.k] 302],[bx b2 (A4 to_) 67],[bx b1 (A4 from_) 67],vo A0 26 rlaidr1 rlaid1] [0,3,1,2] 4 rfl (by decide) rfl [[bx b3 [.slice (va rlaidr1.q) rlaid1.length rlaidr1.k] 302],vo A0 26 rlaidr1 rlaid1,[bx b2 (A4 to_) 67],[bx b1 (A4 from_) 67]] rfl (by first|rfl|simp)) (fun ⟨r11,hk12⟩=>(bx b3 [.slice (va r11.q) y1.length r11.k] 302::bx b2 (A4 to_) 67::bx b1 (A4 from_) 67::(vo A0 26 r11 y1)++([]))) (fun ⟨r11,hk12⟩=>F8 [[bx b3 [.slice (va r11.q) y1.length r11.k] 302],vo A0 26 r11 y1,[bx b2 (A4 to_) 67],[bx b1 (A4 from_) 67]] [0,2,3,1] 4 rfl (by decide) (by first|rfl|simp) [[bx b3 [.slice (va r11.q) y1.length r11.k] 302],[bx b2 (A4 to_) 67],[bx b1 (A4 from_) 67],vo A0 26 r11 y1] rfl (by first|rfl|simp))) fun ⟨r11,hk12⟩=>?_
    have:=VOk.le hk12
    have:=VOk.cap hk12
    have:=Z4 rlaid1 2 bit Col.zero;try rw [hy1] at this
    refine A7 ?_
    exact C1y y1 r11 ⟨hR,hk12,(by first|omega|(simp<;>omega))⟩ (mc [[bx b3 [.slice (va r11.q) y1.length r11.k] 302],[bx b2 (A4 to_) 67],[bx b1 (A4 from_) 67],vo A0 26 r11 y1] [true,true,true,true] rfl (by first|rfl|(simp only [List.length_set]<;>rfl))) fn0
   have h10p:¬ ((¬ (bOp .and .i64 has bit)=0)∧((bOp .and .i64 to_.attr bit)=0)):=by simpa using h10
   try (have hb255:bit1≤255:=by have q:=h10;simp at q;omega)
   refine B1 ?_
   exact C1y rlaid1 rlaidr1 ⟨hR,hokrlaidr1,(by first|omega|(simp<;>omega))⟩ (mc [[bx b3 [.slice (va rlaidr1.q) rlaid1.length rlaidr1.k] 302],[bx b2 (A4 to_) 67],[bx b1 (A4 from_) 67],vo A0 26 rlaidr1 rlaid1] [true,true,true,true] rfl (by first|rfl|(simp only [List.length_set]<;>rfl))) fn0
  intro y16 rlaidr2
  rintro ⟨hR,hokrlaidr2,hj⟩
  replace hR:=(A1p.eq_1 ..).symm.trans hR
  refine A5 3 rfl (ip' 1 2 [(34,iv bit)] ?_)
  refine ix rfl (B1c (c:=(bit * 2)) rfl rfl rfl (by decide) (by show IntKind.i64.wrap (bit * 2)=_;exact V9 (by simp [IntKind.min,IntKind.signed,IntKind.bits];omega) (by simp [IntKind.max,IntKind.signed,IntKind.bits];omega))) (ip' 1 0 [(9,iv (bit * 2))] (A7 ?_))
  exact B9v (z1:=(fu1+1)) (z2:=bit) (z3:=rlaid1) (z4:=rlaidr1) fu1 (bit * 2) y16 rlaidr2 ⟨(by omega),hR,hokrlaidr2,(by first|omega|(rw [V9 (by simp [IntKind.min,IntKind.signed,IntKind.bits];omega) (by simp [IntKind.max,IntKind.signed,IntKind.bits];omega)];omega)),(by first|omega|(simp<;>omega))⟩ (Nat.lt_succ_self _) (mc [[bx b3 [.slice (va rlaidr2.q) y16.length rlaidr2.k] 302],[bx b2 (A4 to_) 67],[bx b1 (A4 from_) 67],vo A0 26 rlaidr2 y16] [true,true,true,true] rfl (by first|rfl|(simp only [List.length_set]<;>rfl))) fn0
 refine H7 (nx (A8 (C7t (nx (A8 (sr 1 rfl (ip' 1 0 [(10,iv 1)] ?_)))))))
 refine ie (B4 ?_)
 refine C3e (fun (fu2:Nat) (bit1:Int) (rlaid3:List Act) (rlaidr3:VR)=>(((512:Int) - bit1).toNat<fu2∧O4 from_ to_ has fu2 bit1 rlaid3=R∧VOk 6 rlaid3.length rlaidr3∧1≤bit1∧bit1≤510∧rlaid3.length≤512+bit1,[(2,pt b1 0),(3,pt b2 0),(5,pt b3 0),(6,.func (.func 240) #[pt b3 0] #[]),(7,iv has),(10,iv bit1)],(bx b3 [.slice (va rlaidr3.q) rlaid3.length rlaidr3.k] 302::bx b2 (A4 to_) 67::bx b1 (A4 from_) 67::(vo A0 26 rlaidr3 rlaid3)++([])),[],fu2)) (((512:Int) - 1).toNat+1) 1 rlaid1 rlaidr1 ⟨(Nat.lt_succ_self _),hR,hokrlaidr1,(by omega),(by first|omega|(simp<;>omega))⟩ (mc [[bx b3 [.slice (va rlaidr1.q) rlaid1.length rlaidr1.k] 302],[bx b2 (A4 to_) 67],[bx b1 (A4 from_) 67],vo A0 26 rlaidr1 rlaid1] [true,true,true,true] rfl (by first|rfl|(simp only [List.length_set]<;>rfl))) fn0 ?_
 rintro fu2 bit1 rlaid3 rlaidr3 ⟨hm13,hR,hokrlaidr3,hb,hn⟩
 have:=VOk.le hokrlaidr3
 obtain ⟨fu3,rfl⟩:∃ m,fu2=m+1:=⟨fu2 - 1,by omega⟩
 replace hR:=(O4.eq_2 ..).symm.trans hR
 refine D6k (fun (y17:List Act) (rlaidr4:VR)=>(A1i bit1 (O4 from_ to_ has fu3) y17=R∧VOk 6 y17.length rlaidr4∧y17.length≤513+bit1∧bit1≤255,[(2,pt b1 0),(3,pt b2 0),(5,pt b3 0),(6,.func (.func 240) #[pt b3 0] #[]),(7,iv has),(10,iv bit1)],(bx b3 [.slice (va rlaidr4.q) y17.length rlaidr4.k] 302::bx b2 (A4 to_) 67::bx b1 (A4 from_) 67::(vo A0 26 rlaidr4 y17)++([])),[])) ?_ ?_
 ·refine B4 (A8 (sr 2 rfl (ip' 2 0 [(54,bv (decide ((255:Int)<bit1)))] ?_)))
  refine ie ?_
  refine zjd rfl hR ?_ ?_<;>clear hR<;>intro hR h14 h14p
  ·refine H7 (nx (D6k (fun (y7:List Act) (rlaidr5:VR)=>(A1h from_ to_ y7=R∧VOk 6 y7.length rlaidr5∧y7.length≤1100,[(2,pt b1 0),(3,pt b2 0),(5,pt b3 0),(6,.func (.func 240) #[pt b3 0] #[])],(bx b3 [.slice (va rlaidr5.q) y7.length rlaidr5.k] 302::bx b2 (A4 to_) 67::bx b1 (A4 from_) 67::(vo A0 26 rlaidr5 y7)++([])),[])) ?_ ?_))
   ·refine sr 5 rfl (zrl 5 0 [2,1] [(74,bv (!decide (from_.under=to_.under)))] (ie ?_))
    refine zjn rfl hR ?_ ?_<;>clear hR<;>intro hR h15 h15p
    ·refine A5 5 rfl (zrl 4 1 [1] [(75,.func (.func 240) #[pt b3 0] #[]),(77,iv to_.under),(78,ag (K3 Col.zero))] ?_)
     have hQ:=D0 hR;clear hR;obtain ⟨y12,hy12,hR⟩:=hQ
     refine it rfl (G8 (L2:=[bx b2 (A4 to_) 67,bx b1 (A4 from_) 67]) (A1f rlaid3 3 to_.under Col.zero b3 rlaidr3 hokrlaidr3 (by first|omega|(simp<;>omega)) y12 hy12) rfl rfl rfl rfl rfl fn0 (F8 [[bx b3 [.slice (va rlaidr3.q) rlaid3.length rlaidr3.k] 302],[bx b2 (A4 to_) 67],[bx b1 (A4 from_) 67],vo A0 26 rlaidr3 rlaid3] [0,3,1,2] 4 rfl (by decide) rfl [[bx b3 [.slice (va rlaidr3.q) rlaid3.length rlaidr3.k] 302],vo A0 26 rlaidr3 rlaid3,[bx b2 (A4 to_) 67],[bx b1 (A4 from_) 67]] rfl (by first|rfl|simp)) (fun ⟨r16,hk17⟩=>(bx b3 [.slice (va r16.q) y12.length r16.k] 302::bx b2 (A4 to_) 67::bx b1 (A4 from_) 67::(vo A0 26 r16 y12)++([]))) (fun ⟨r16,hk17⟩=>F8 [[bx b3 [.slice (va r16.q) y12.length r16.k] 302],vo A0 26 r16 y12,[bx b2 (A4 to_) 67],[bx b1 (A4 from_) 67]] [0,2,3,1] 4 rfl (by decide) (by first|rfl|simp) [[bx b3 [.slice (va r16.q) y12.length r16.k] 302],[bx b2 (A4 to_) 67],[bx b1 (A4 from_) 67],vo A0 26 r16 y12] rfl (by first|rfl|simp))) fun ⟨r16,hk17⟩=>?_
     have:=VOk.le hk17
     have:=VOk.cap hk17
     have:=Z4 rlaid3 3 to_.under Col.zero;try rw [hy12] at this
     refine A7 ?_
     exact C1y y12 r16 ⟨hR,hk17,(by first|omega|(simp<;>omega))⟩ (mc [[bx b3 [.slice (va r16.q) y12.length r16.k] 302],[bx b2 (A4 to_) 67],[bx b1 (A4 from_) 67],vo A0 26 r16 y12] [true,true,true,true] rfl (by first|rfl|(simp only [List.length_set]<;>rfl))) fn0
    try (have hb255:bit1≤255:=by have q:=h15;simp at q;omega)
    refine B1 ?_
    exact C1y rlaid3 rlaidr3 ⟨hR,hokrlaidr3,(by first|omega|(simp<;>omega))⟩ (mc [[bx b3 [.slice (va rlaidr3.q) rlaid3.length rlaidr3.k] 302],[bx b2 (A4 to_) 67],[bx b1 (A4 from_) 67],vo A0 26 rlaidr3 rlaid3] [true,true,true,true] rfl (by first|rfl|(simp only [List.length_set]<;>rfl))) fn0
   intro y7 rlaidr5
   rintro ⟨hR,hokrlaidr5,hj⟩
   replace hR:=(A1h.eq_1 ..).symm.trans hR
   refine A8 (sr 17 rfl (zrl 17 0 [2,1,2,1,2,1] [(95,ag [iv 4,iv from_.fore.kind,iv from_.fore.n,iv to_.fore.kind,iv to_.fore.n,iv 5,iv from_.back.kind,iv from_.back.n,iv to_.back.kind,iv to_.back.n,iv 6,iv from_.line.kind,iv from_.line.n,iv to_.line.kind,iv to_.line.n]),(96,iv 0)] ?_))
   refine ie (B4 (Z8 5 ?_))
   refine D7 (sr 1 rfl (ip' 1 0 [(97,bv true)] ?_))
   refine ie (A8 (K1 rfl (B1 (nx (D6k (fun (y6:List Act) (rlaidr6:VR)=>(A2i from_ to_ y6=R∧VOk 6 y6.length rlaidr6∧y6.length≤1101,[(5,pt b3 0),(6,.func (.func 240) #[pt b3 0] #[]),(95,ag [iv 4,iv from_.fore.kind,iv from_.fore.n,iv to_.fore.kind,iv to_.fore.n,iv 5,iv from_.back.kind,iv from_.back.n,iv to_.back.kind,iv to_.back.n,iv 6,iv from_.line.kind,iv from_.line.n,iv to_.line.kind,iv to_.line.n]),(96,iv 0)],(bx b3 [.slice (va rlaidr6.q) y6.length rlaidr6.k] 302::bx b2 (A4 to_) 67::bx b1 (A4 from_) 67::(vo A0 26 rlaidr6 y6)++([])),[])) ?_ ?_)))))
   ·refine B4 (sr 3 rfl (ix rfl (D8 (v:=ag [iv 4,iv from_.fore.kind,iv from_.fore.n,iv to_.fore.kind,iv to_.fore.n]) (us:=[iv 4,iv from_.fore.kind,iv from_.fore.n,iv to_.fore.kind,iv to_.fore.n]) Tryz.underlying306 D9t rfl rfl rfl 0 rfl (by decide) rfl rfl rfl) ?_))
    refine M8 2 0 [0] (fun b18=>[(12,pt b18 0)]) (fun b18=>(bx b18 [iv 4,iv from_.fore.kind,iv from_.fore.n,iv to_.fore.kind,iv to_.fore.n] 305::bx b3 [.slice (va rlaidr5.q) y7.length rlaidr5.k] 302::bx b2 (A4 to_) 67::bx b1 (A4 from_) 67::(vo A0 26 rlaidr5 y7)++([]))) (fun b18=>?_)
    refine ie (sr 5 rfl (zrl 4 1 [0,0] [(100,ag [iv from_.fore.kind,iv from_.fore.n]),(102,ag [iv to_.fore.kind,iv to_.fore.n])] (ix rfl (V8 (a:=from_.fore) (b:=to_.fore) B0d rfl rfl rfl) (ie ?_))))
    refine zjn rfl hR ?_ ?_<;>clear hR<;>intro hR h19 h19p
    ·refine A5 6 rfl (zrl 5 1 [0,0] [(104,.func (.func 240) #[pt b3 0] #[]),(106,iv 4),(108,ag [iv to_.fore.kind,iv to_.fore.n])] ?_)
     have hQ:=D0 hR;clear hR;obtain ⟨y11,hy11,hR⟩:=hQ
     refine it rfl (G8 (L2:=[bx b18 [iv 4,iv from_.fore.kind,iv from_.fore.n,iv to_.fore.kind,iv to_.fore.n] 305,bx b2 (A4 to_) 67,bx b1 (A4 from_) 67]) (A1f y7 4 0 to_.fore b3 rlaidr5 hokrlaidr5 (by first|omega|(simp<;>omega)) y11 hy11) rfl rfl rfl rfl rfl fn0 (F8 [[bx b18 [iv 4,iv from_.fore.kind,iv from_.fore.n,iv to_.fore.kind,iv to_.fore.n] 305],[bx b3 [.slice (va rlaidr5.q) y7.length rlaidr5.k] 302],[bx b2 (A4 to_) 67],[bx b1 (A4 from_) 67],vo A0 26 rlaidr5 y7] [1,4,0,2,3] 5 rfl (by decide) rfl [[bx b3 [.slice (va rlaidr5.q) y7.length rlaidr5.k] 302],vo A0 26 rlaidr5 y7,[bx b18 [iv 4,iv from_.fore.kind,iv from_.fore.n,iv to_.fore.kind,iv to_.fore.n] 305],[bx b2 (A4 to_) 67],[bx b1 (A4 from_) 67]] rfl (by first|rfl|simp)) (fun ⟨r20,hk21⟩=>(bx b3 [.slice (va r20.q) y11.length r20.k] 302::bx b18 [iv 4,iv from_.fore.kind,iv from_.fore.n,iv to_.fore.kind,iv to_.fore.n] 305::bx b2 (A4 to_) 67::bx b1 (A4 from_) 67::(vo A0 26 r20 y11)++([]))) (fun ⟨r20,hk21⟩=>F8 [[bx b3 [.slice (va r20.q) y11.length r20.k] 302],vo A0 26 r20 y11,[bx b18 [iv 4,iv from_.fore.kind,iv from_.fore.n,iv to_.fore.kind,iv to_.fore.n] 305],[bx b2 (A4 to_) 67],[bx b1 (A4 from_) 67]] [0,2,3,4,1] 5 rfl (by decide) (by first|rfl|simp) [[bx b3 [.slice (va r20.q) y11.length r20.k] 302],[bx b18 [iv 4,iv from_.fore.kind,iv from_.fore.n,iv to_.fore.kind,iv to_.fore.n] 305],[bx b2 (A4 to_) 67],[bx b1 (A4 from_) 67],vo A0 26 r20 y11] rfl (by first|rfl|simp))) fun ⟨r20,hk21⟩=>?_
     have:=VOk.le hk21
     have:=VOk.cap hk21
     have:=Z4 y7 4 0 to_.fore;try rw [hy11] at this
     refine A7 ?_
     exact C1y y11 r20 ⟨hR,hk21,(by first|omega|(simp<;>omega))⟩ (mc [[bx b3 [.slice (va r20.q) y11.length r20.k] 302],[bx b18 [iv 4,iv from_.fore.kind,iv from_.fore.n,iv to_.fore.kind,iv to_.fore.n] 305],[bx b2 (A4 to_) 67],[bx b1 (A4 from_) 67],vo A0 26 r20 y11] [true,false,true,true,true] rfl (by first|rfl|(simp only [List.length_set]<;>rfl))) fn0
    refine B1 ?_
    exact C1y y7 rlaidr5 ⟨hR,hokrlaidr5,(by first|omega|(simp<;>omega))⟩ (mc [[bx b18 [iv 4,iv from_.fore.kind,iv from_.fore.n,iv to_.fore.kind,iv to_.fore.n] 305],[bx b3 [.slice (va rlaidr5.q) y7.length rlaidr5.k] 302],[bx b2 (A4 to_) 67],[bx b1 (A4 from_) 67],vo A0 26 rlaidr5 y7] [false,true,true,true,true] rfl (by first|rfl|(simp only [List.length_set]<;>rfl))) fn0
   intro y6 rlaidr6
   rintro ⟨hR,hokrlaidr6,hj⟩
   replace hR:=(A2i.eq_1 ..).symm.trans hR
   refine A5 2 rfl (ix rfl (B7 (c:=1) rfl rfl rfl rfl (by decide)) (ip' 1 0 [(96,iv 1)] (A7 (D7 (sr 1 rfl (ip' 1 0 [(97,bv true)] ?_))))))
   refine ie (A8 (K1 rfl (B1 (nx (D6k (fun (y8:List Act) (rlaidr7:VR)=>(A2k from_ to_ y8=R∧VOk 6 y8.length rlaidr7∧y8.length≤1102,[(5,pt b3 0),(6,.func (.func 240) #[pt b3 0] #[]),(95,ag [iv 4,iv from_.fore.kind,iv from_.fore.n,iv to_.fore.kind,iv to_.fore.n,iv 5,iv from_.back.kind,iv from_.back.n,iv to_.back.kind,iv to_.back.n,iv 6,iv from_.line.kind,iv from_.line.n,iv to_.line.kind,iv to_.line.n]),(96,iv 1)],(bx b3 [.slice (va rlaidr7.q) y8.length rlaidr7.k] 302::bx b2 (A4 to_) 67::bx b1 (A4 from_) 67::(vo A0 26 rlaidr7 y8)++([])),[])) ?_ ?_)))))
   ·refine B4 (sr 3 rfl (ix rfl (D8 (v:=ag [iv 5,iv from_.back.kind,iv from_.back.n,iv to_.back.kind,iv to_.back.n]) (us:=[iv 5,iv from_.back.kind,iv from_.back.n,iv to_.back.kind,iv to_.back.n]) Tryz.underlying306 D9t rfl rfl rfl 1 rfl (by decide) rfl rfl rfl) ?_))
    refine M8 2 0 [0] (fun b22=>[(12,pt b22 0)]) (fun b22=>(bx b22 [iv 5,iv from_.back.kind,iv from_.back.n,iv to_.back.kind,iv to_.back.n] 305::bx b3 [.slice (va rlaidr6.q) y6.length rlaidr6.k] 302::bx b2 (A4 to_) 67::bx b1 (A4 from_) 67::(vo A0 26 rlaidr6 y6)++([]))) (fun b22=>?_)
    refine ie (sr 5 rfl (zrl 4 1 [0,0] [(100,ag [iv from_.back.kind,iv from_.back.n]),(102,ag [iv to_.back.kind,iv to_.back.n])] (ix rfl (V8 (a:=from_.back) (b:=to_.back) B0d rfl rfl rfl) (ie ?_))))
    refine zjn rfl hR ?_ ?_<;>clear hR<;>intro hR h23 h23p
    ·refine A5 6 rfl (zrl 5 1 [0,0] [(104,.func (.func 240) #[pt b3 0] #[]),(106,iv 5),(108,ag [iv to_.back.kind,iv to_.back.n])] ?_)
     have hQ:=D0 hR;clear hR;obtain ⟨y13,hy13,hR⟩:=hQ
     refine it rfl (G8 (L2:=[bx b22 [iv 5,iv from_.back.kind,iv from_.back.n,iv to_.back.kind,iv to_.back.n] 305,bx b2 (A4 to_) 67,bx b1 (A4 from_) 67]) (A1f y6 5 0 to_.back b3 rlaidr6 hokrlaidr6 (by first|omega|(simp<;>omega)) y13 hy13) rfl rfl rfl rfl rfl fn0 (F8 [[bx b22 [iv 5,iv from_.back.kind,iv from_.back.n,iv to_.back.kind,iv to_.back.n] 305],[bx b3 [.slice (va rlaidr6.q) y6.length rlaidr6.k] 302],[bx b2 (A4 to_) 67],[bx b1 (A4 from_) 67],vo A0 26 rlaidr6 y6] [1,4,0,2,3] 5 rfl (by decide) rfl [[bx b3 [.slice (va rlaidr6.q) y6.length rlaidr6.k] 302],vo A0 26 rlaidr6 y6,[bx b22 [iv 5,iv from_.back.kind,iv from_.back.n,iv to_.back.kind,iv to_.back.n] 305],[bx b2 (A4 to_) 67],[bx b1 (A4 from_) 67]] rfl (by first|rfl|simp)) (fun ⟨r24,hk25⟩=>(bx b3 [.slice (va r24.q) y13.length r24.k] 302::bx b22 [iv 5,iv from_.back.kind,iv from_.back.n,iv to_.back.kind,iv to_.back.n] 305::bx b2 (A4 to_) 67::bx b1 (A4 from_) 67::(vo A0 26 r24 y13)++([]))) (fun ⟨r24,hk25⟩=>F8 [[bx b3 [.slice (va r24.q) y13.length r24.k] 302],vo A0 26 r24 y13,[bx b22 [iv 5,iv from_.back.kind,iv from_.back.n,iv to_.back.kind,iv to_.back.n] 305],[bx b2 (A4 to_) 67],[bx b1 (A4 from_) 67]] [0,2,3,4,1] 5 rfl (by decide) (by first|rfl|simp) [[bx b3 [.slice (va r24.q) y13.length r24.k] 302],[bx b22 [iv 5,iv from_.back.kind,iv from_.back.n,iv to_.back.kind,iv to_.back.n] 305],[bx b2 (A4 to_) 67],[bx b1 (A4 from_) 67],vo A0 26 r24 y13] rfl (by first|rfl|simp))) fun ⟨r24,hk25⟩=>?_
     have:=VOk.le hk25
     have:=VOk.cap hk25
     have:=Z4 y6 5 0 to_.back;try rw [hy13] at this
     refine A7 ?_
     exact C1y y13 r24 ⟨hR,hk25,(by first|omega|(simp<;>omega))⟩ (mc [[bx b3 [.slice (va r24.q) y13.length r24.k] 302],[bx b22 [iv 5,iv from_.back.kind,iv from_.back.n,iv to_.back.kind,iv to_.back.n] 305],[bx b2 (A4 to_) 67],[bx b1 (A4 from_) 67],vo A0 26 r24 y13] [true,false,true,true,true] rfl (by first|rfl|(simp only [List.length_set]<;>rfl))) fn0
    refine B1 ?_
    exact C1y y6 rlaidr6 ⟨hR,hokrlaidr6,(by first|omega|(simp<;>omega))⟩ (mc [[bx b22 [iv 5,iv from_.back.kind,iv from_.back.n,iv to_.back.kind,iv to_.back.n] 305],[bx b3 [.slice (va rlaidr6.q) y6.length rlaidr6.k] 302],[bx b2 (A4 to_) 67],[bx b1 (A4 from_) 67],vo A0 26 rlaidr6 y6] [false,true,true,true,true] rfl (by first|rfl|(simp only [List.length_set]<;>rfl))) fn0
   intro y8 rlaidr7
   rintro ⟨hR,hokrlaidr7,hj⟩
   replace hR:=(A2k.eq_1 ..).symm.trans hR
   refine A5 2 rfl (ix rfl (B7 (c:=2) rfl rfl rfl rfl (by decide)) (ip' 1 0 [(96,iv 2)] (A7 (D7 (sr 1 rfl (ip' 1 0 [(97,bv true)] ?_))))))
   refine ie (A8 (K1 rfl (B1 (nx (D6k (fun (y18:List Act) (rlaidr8:VR)=>(A2o y18=R∧VOk 6 y18.length rlaidr8,[(5,pt b3 0),(6,.func (.func 240) #[pt b3 0] #[]),(95,ag [iv 4,iv from_.fore.kind,iv from_.fore.n,iv to_.fore.kind,iv to_.fore.n,iv 5,iv from_.back.kind,iv from_.back.n,iv to_.back.kind,iv to_.back.n,iv 6,iv from_.line.kind,iv from_.line.n,iv to_.line.kind,iv to_.line.n]),(96,iv 2)],(bx b3 [.slice (va rlaidr8.q) y18.length rlaidr8.k] 302::bx b2 (A4 to_) 67::bx b1 (A4 from_) 67::(vo A0 26 rlaidr8 y18)++([])),[])) ?_ ?_)))))
   ·refine B4 (sr 3 rfl (ix rfl (D8 (v:=ag [iv 6,iv from_.line.kind,iv from_.line.n,iv to_.line.kind,iv to_.line.n]) (us:=[iv 6,iv from_.line.kind,iv from_.line.n,iv to_.line.kind,iv to_.line.n]) Tryz.underlying306 D9t rfl rfl rfl 2 rfl (by decide) rfl rfl rfl) ?_))
    refine M8 2 0 [0] (fun b26=>[(12,pt b26 0)]) (fun b26=>(bx b26 [iv 6,iv from_.line.kind,iv from_.line.n,iv to_.line.kind,iv to_.line.n] 305::bx b3 [.slice (va rlaidr7.q) y8.length rlaidr7.k] 302::bx b2 (A4 to_) 67::bx b1 (A4 from_) 67::(vo A0 26 rlaidr7 y8)++([]))) (fun b26=>?_)
    refine ie (sr 5 rfl (zrl 4 1 [0,0] [(100,ag [iv from_.line.kind,iv from_.line.n]),(102,ag [iv to_.line.kind,iv to_.line.n])] (ix rfl (V8 (a:=from_.line) (b:=to_.line) B0d rfl rfl rfl) (ie ?_))))
    refine zjn rfl hR ?_ ?_<;>clear hR<;>intro hR h27 h27p
    ·refine A5 6 rfl (zrl 5 1 [0,0] [(104,.func (.func 240) #[pt b3 0] #[]),(106,iv 6),(108,ag [iv to_.line.kind,iv to_.line.n])] ?_)
     have hQ:=D0 hR;clear hR;obtain ⟨y14,hy14,hR⟩:=hQ
     refine it rfl (G8 (L2:=[bx b26 [iv 6,iv from_.line.kind,iv from_.line.n,iv to_.line.kind,iv to_.line.n] 305,bx b2 (A4 to_) 67,bx b1 (A4 from_) 67]) (A1f y8 6 0 to_.line b3 rlaidr7 hokrlaidr7 (by first|omega|(simp<;>omega)) y14 hy14) rfl rfl rfl rfl rfl fn0 (F8 [[bx b26 [iv 6,iv from_.line.kind,iv from_.line.n,iv to_.line.kind,iv to_.line.n] 305],[bx b3 [.slice (va rlaidr7.q) y8.length rlaidr7.k] 302],[bx b2 (A4 to_) 67],[bx b1 (A4 from_) 67],vo A0 26 rlaidr7 y8] [1,4,0,2,3] 5 rfl (by decide) rfl [[bx b3 [.slice (va rlaidr7.q) y8.length rlaidr7.k] 302],vo A0 26 rlaidr7 y8,[bx b26 [iv 6,iv from_.line.kind,iv from_.line.n,iv to_.line.kind,iv to_.line.n] 305],[bx b2 (A4 to_) 67],[bx b1 (A4 from_) 67]] rfl (by first|rfl|simp)) (fun ⟨r28,hk29⟩=>(bx b3 [.slice (va r28.q) y14.length r28.k] 302::bx b26 [iv 6,iv from_.line.kind,iv from_.line.n,iv to_.line.kind,iv to_.line.n] 305::bx b2 (A4 to_) 67::bx b1 (A4 from_) 67::(vo A0 26 r28 y14)++([]))) (fun ⟨r28,hk29⟩=>F8 [[bx b3 [.slice (va r28.q) y14.length r28.k] 302],vo A0 26 r28 y14,[bx b26 [iv 6,iv from_.line.kind,iv from_.line.n,iv to_.line.kind,iv to_.line.n] 305],[bx b2 (A4 to_) 67],[bx b1 (A4 from_) 67]] [0,2,3,4,1] 5 rfl (by decide) (by first|rfl|simp) [[bx b3 [.slice (va r28.q) y14.length r28.k] 302],[bx b26 [iv 6,iv from_.line.kind,iv from_.line.n,iv to_.line.kind,iv to_.line.n] 305],[bx b2 (A4 to_) 67],[bx b1 (A4 from_) 67],vo A0 26 r28 y14] rfl (by first|rfl|simp))) fun ⟨r28,hk29⟩=>?_
     have:=VOk.le hk29
     have:=VOk.cap hk29
     have:=Z4 y8 6 0 to_.line;try rw [hy14] at this
     refine A7 ?_
     exact C1y y14 r28 ⟨hR,hk29⟩ (mc [[bx b3 [.slice (va r28.q) y14.length r28.k] 302],[bx b26 [iv 6,iv from_.line.kind,iv from_.line.n,iv to_.line.kind,iv to_.line.n] 305],[bx b2 (A4 to_) 67],[bx b1 (A4 from_) 67],vo A0 26 r28 y14] [true,false,true,true,true] rfl (by first|rfl|(simp only [List.length_set]<;>rfl))) fn0
    refine B1 ?_
    exact C1y y8 rlaidr7 ⟨hR,hokrlaidr7⟩ (mc [[bx b26 [iv 6,iv from_.line.kind,iv from_.line.n,iv to_.line.kind,iv to_.line.n] 305],[bx b3 [.slice (va rlaidr7.q) y8.length rlaidr7.k] 302],[bx b2 (A4 to_) 67],[bx b1 (A4 from_) 67],vo A0 26 rlaidr7 y8] [false,true,true,true,true] rfl (by first|rfl|(simp only [List.length_set]<;>rfl))) fn0
   intro y18 rlaidr8
   rintro ⟨hR,hokrlaidr8⟩
   replace hR:=(A2o.eq_1 ..).symm.trans hR
   refine A5 2 rfl (ix rfl (B7 (c:=3) rfl rfl rfl rfl (by decide)) (ip' 1 0 [(96,iv 3)] (A7 (D7 (sr 1 rfl (ip' 1 0 [(97,bv false)] (ie (A8 (A4y rfl (H7 (nx (sr 6 rfl (zrl 6 0 [0] [(4,.slice (va rlaidr8.q) y18.length rlaidr8.k)] ?_)))))))))))))
   subst hR
   refine ie (B5 ?_)
   exact zer hr hD (Q9 rfl (C1 rfl)) ⟨rlaidr8,hokrlaidr8⟩ (mc [[bx b3 [.slice (va rlaidr8.q) y18.length rlaidr8.k] 302],[bx b2 (A4 to_) 67],[bx b1 (A4 from_) 67],vo A0 26 rlaidr8 y18] [false,false,false,true] rfl (by first|rfl|(simp only [List.length_set]<;>rfl))) fn0
  try (have hb255:bit1≤255:=by have q:=h14;simp at q;omega)
  refine B1 (nx (sr 11 rfl (zrl 6 5 [1] [(60,bv (!decide ((bOp .and .i64 to_.attr bit1)=0)))] ?_)))
  refine zia 5 0 60 65 (decide ((bOp .and .i64 has bit1)=0)) (fun g30=>?_) ?_
  ·have g30p:¬ (bOp .and .i64 to_.attr bit1)=0:=by simpa using g30
   refine ip' 5 0 [(65,bv (decide ((bOp .and .i64 has bit1)=0)))] ?_
   exact A7 (U9 2 60 65 g30 fn0 (mc [[bx b3 [.slice (va rlaidr3.q) rlaid3.length rlaidr3.k] 302],[bx b2 (A4 to_) 67],[bx b1 (A4 from_) 67],vo A0 26 rlaidr3 rlaid3] [true,true,true,true] rfl (by first|rfl|(simp only [List.length_set]<;>rfl))) rfl rfl rfl rfl rfl)
  refine ie ?_
  refine zjb rfl hR ?_ ?_<;>clear hR<;>intro hR h31
  ·have h31p:(¬ (bOp .and .i64 to_.attr bit1)=0)∧((bOp .and .i64 has bit1)=0):=by simpa using h31
   refine A5 4 rfl (zrl 3 1 [] [(66,.func (.func 240) #[pt b3 0] #[]),(67,iv bit1),(68,ag (K3 Col.zero))] ?_)
   have hQ:=D0 hR;clear hR;obtain ⟨y10,hy10,hR⟩:=hQ
   refine it rfl (G8 (L2:=[bx b2 (A4 to_) 67,bx b1 (A4 from_) 67]) (A1f rlaid3 1 bit1 Col.zero b3 rlaidr3 hokrlaidr3 (by first|omega|(simp<;>omega)) y10 hy10) rfl rfl rfl rfl rfl fn0 (F8 [[bx b3 [.slice (va rlaidr3.q) rlaid3.length rlaidr3.k] 302],[bx b2 (A4 to_) 67],[bx b1 (A4 from_) 67],vo A0 26 rlaidr3 rlaid3] [0,3,1,2] 4 rfl (by decide) rfl [[bx b3 [.slice (va rlaidr3.q) rlaid3.length rlaidr3.k] 302],vo A0 26 rlaidr3 rlaid3,[bx b2 (A4 to_) 67],[bx b1 (A4 from_) 67]] rfl (by first|rfl|simp)) (fun ⟨r32,hk33⟩=>(bx b3 [.slice (va r32.q) y10.length r32.k] 302::bx b2 (A4 to_) 67::bx b1 (A4 from_) 67::(vo A0 26 r32 y10)++([]))) (fun ⟨r32,hk33⟩=>F8 [[bx b3 [.slice (va r32.q) y10.length r32.k] 302],vo A0 26 r32 y10,[bx b2 (A4 to_) 67],[bx b1 (A4 from_) 67]] [0,2,3,1] 4 rfl (by decide) (by first|rfl|simp) [[bx b3 [.slice (va r32.q) y10.length r32.k] 302],[bx b2 (A4 to_) 67],[bx b1 (A4 from_) 67],vo A0 26 r32 y10] rfl (by first|rfl|simp))) fun ⟨r32,hk33⟩=>?_
   have:=VOk.le hk33
   have:=VOk.cap hk33
   have:=Z4 rlaid3 1 bit1 Col.zero;try rw [hy10] at this
   refine A7 ?_
   exact C1y y10 r32 ⟨hR,hk33,(by first|omega|(simp<;>omega))⟩ (mc [[bx b3 [.slice (va r32.q) y10.length r32.k] 302],[bx b2 (A4 to_) 67],[bx b1 (A4 from_) 67],vo A0 26 r32 y10] [true,true,true,true] rfl (by first|rfl|(simp only [List.length_set]<;>rfl))) fn0
  have h31p:¬ ((¬ (bOp .and .i64 to_.attr bit1)=0)∧((bOp .and .i64 has bit1)=0)):=by simpa using h31
  try (have hb255:bit1≤255:=by have q:=h31;simp at q;omega)
  refine B1 ?_
  exact C1y rlaid3 rlaidr3 ⟨hR,hokrlaidr3,(by first|omega|(simp<;>omega))⟩ (mc [[bx b3 [.slice (va rlaidr3.q) rlaid3.length rlaidr3.k] 302],[bx b2 (A4 to_) 67],[bx b1 (A4 from_) 67],vo A0 26 rlaidr3 rlaid3] [true,true,true,true] rfl (by first|rfl|(simp only [List.length_set]<;>rfl))) fn0
 intro y17 rlaidr4
 rintro ⟨hR,hokrlaidr4,hj⟩
 replace hR:=(A1i.eq_1 ..).symm.trans hR
 refine A5 3 rfl (ip' 1 2 [(51,iv bit1)] ?_)
 refine ix rfl (B1c (c:=(bit1 * 2)) rfl rfl rfl (by decide) (by show IntKind.i64.wrap (bit1 * 2)=_;exact V9 (by simp [IntKind.min,IntKind.signed,IntKind.bits];omega) (by simp [IntKind.max,IntKind.signed,IntKind.bits];omega))) (ip' 1 0 [(10,iv (bit1 * 2))] (A7 ?_))
 exact B9v (z1:=(fu3+1)) (z2:=bit1) (z3:=rlaid3) (z4:=rlaidr3) fu3 (bit1 * 2) y17 rlaidr4 ⟨(by omega),hR,hokrlaidr4,(by first|omega|(rw [V9 (by simp [IntKind.min,IntKind.signed,IntKind.bits];omega) (by simp [IntKind.max,IntKind.signed,IntKind.bits];omega)];omega)),(by first|omega|(simp<;>omega))⟩ (Nat.lt_succ_self _) (mc [[bx b3 [.slice (va rlaidr4.q) y17.length rlaidr4.k] 302],[bx b2 (A4 to_) 67],[bx b1 (A4 from_) 67],vo A0 26 rlaidr4 y17] [true,true,true,true] rfl (by first|rfl|(simp only [List.length_set]<;>rfl))) fn0
def A0t (from_:Sty) (to_:Sty):List Act×Int :=
 (bif (!decide ((F1 from_)=0)) then (([]:List Act),(F1 from_)) else (bif (!decide ((F1 to_)=0)) then (([]:List Act),(F1 to_)) else (B6 (A3z from_ to_) fun (y5:List Act)=>(y5,0))))
theorem B3o (f t:Sty):(A0t f t).1.length≤21:=by
 have h:=C6v f t;rw [← A3s] at h
 unfold A0t;simp only [B6,Bool.cond_eq_ite];repeat' split
 all_goals first|exact h|simp
theorem B3n (f t:Sty):∀ a ∈ (A0t f t).1,D2m a:=by
 have h:=D3o f t;rw [← A3s] at h
 unfold A0t;simp only [B6,Bool.cond_eq_ite];repeat' split
 all_goals first|exact h|simp
theorem C5p (from_:Sty) (to_:Sty) (R:List Act×Int) (hR:A0t from_ to_=R):Con Tryz.prog 216 [ag (A4 from_),ag (A4 to_)] [] [] ({r:VR // VOk 6 R.1.length r}) (fun x=>.tuple #[.slice (va x.1.q) R.1.length x.1.k,iv R.2]) (fun x=>((vo A0 26 x.1 R.1)++([]))) (fun x=>[]):=by
 refine zco Tryz.func216 [(0,ag (A4 from_)),(1,ag (A4 to_))] fun X hX hr hD=>?_
 replace hR:=(A0t.eq_1 ..).symm.trans hR
 refine sr 4 rfl (B9a 4 0 [] (fun b1 b2=>[(2,pt b1 0),(3,pt b2 0)]) (fun b1 b2=>[bx b2 (A4 to_) 67,bx b1 (A4 from_) 67]) (fun b1 b2=>(ie (A8 (sr 4 rfl (zrl 4 0 [1,0] [(11,ag [iv from_.attr,iv from_.under,iv from_.fore.kind,iv from_.fore.n,iv from_.back.kind,iv from_.back.n,iv from_.line.kind,iv from_.line.n,iv to_.attr,iv to_.under,iv to_.fore.kind,iv to_.fore.n,iv to_.back.kind,iv to_.back.n,iv to_.line.kind,iv to_.line.n]),(12,iv 0)] (ie (B4 (Z8 4 ?_)))))))))
 refine D7 (sr 1 rfl (ip' 1 0 [(13,bv true)] ?_))
 refine ie (A8 (K1 rfl (B1 (nx (A8 (B4 (sr 3 rfl (ix rfl (D8 (v:=ag [iv from_.attr,iv from_.under,iv from_.fore.kind,iv from_.fore.n,iv from_.back.kind,iv from_.back.n,iv from_.line.kind,iv from_.line.n]) (us:=[iv from_.attr,iv from_.under,iv from_.fore.kind,iv from_.fore.n,iv from_.back.kind,iv from_.back.n,iv from_.line.kind,iv from_.line.n]) Tryz.underlying291 B5d rfl rfl rfl 0 rfl (by decide) rfl rfl rfl) ?_))))))))
 refine M8 2 0 [0] (fun b3=>[(7,pt b3 0)]) (fun b3=>[bx b3 (A4 from_) 67,bx b2 (A4 to_) 67,bx b1 (A4 from_) 67]) (fun b3=>?_)
 refine ie (sr 3 rfl (zrl 1 2 [0] [(15,ag (A4 from_))] (zca (A7k from_ _ rfl) fn0 (ip' 1 0 [(8,iv (F1 from_))] (ie (sr 2 rfl (ip' 2 0 [(18,bv (!decide ((F1 from_)=0)))] (ie ?_))))))))
 refine zjn rfl hR ?_ ?_<;>clear hR<;>intro hR h4 h4p
 ·refine sr 3 rfl (ip' 3 0 [(4,.slice none 0 0),(5,iv (F1 from_))] ?_)
  subst hR
  refine ie (B5 ?_)
  exact zer hr hD (A5j rfl (C1 rfl) (C1 rfl)) ⟨VR.nil,VOk.nil⟩ (mc [[bx b3 (A4 from_) 67],[bx b2 (A4 to_) 67],[bx b1 (A4 from_) 67],vo A0 26 VR.nil ([]:List Act)] [false,false,false,true] rfl (by first|rfl|(simp only [List.length_set]<;>rfl))) fn0
 refine B1 (nx (A5 2 rfl (ix rfl (B7 (c:=1) rfl rfl rfl rfl (by decide)) (ip' 1 0 [(12,iv 1)] (A7 (D7 (sr 1 rfl (ip' 1 0 [(13,bv true)] (ie (A8 (K1 rfl (B1 (nx (A8 (B4 (sr 3 rfl (ix rfl (D8 (v:=ag [iv to_.attr,iv to_.under,iv to_.fore.kind,iv to_.fore.n,iv to_.back.kind,iv to_.back.n,iv to_.line.kind,iv to_.line.n]) (us:=[iv to_.attr,iv to_.under,iv to_.fore.kind,iv to_.fore.n,iv to_.back.kind,iv to_.back.n,iv to_.line.kind,iv to_.line.n]) Tryz.underlying291 B5d rfl rfl rfl 1 rfl (by decide) rfl rfl rfl) ?_)))))))))))))))))
 refine M8 2 0 [0] (fun b5=>[(7,pt b5 0)]) (fun b5=>[bx b5 (A4 to_) 67,bx b3 (A4 from_) 67,bx b2 (A4 to_) 67,bx b1 (A4 from_) 67]) (fun b5=>?_)
 refine ie (sr 3 rfl (zrl 1 2 [0] [(15,ag (A4 to_))] (zca (A7k to_ _ rfl) fn0 (ip' 1 0 [(8,iv (F1 to_))] (ie (sr 2 rfl (ip' 2 0 [(18,bv (!decide ((F1 to_)=0)))] (ie ?_))))))))
 refine zjn rfl hR ?_ ?_<;>clear hR<;>intro hR h6 h6p
 ·refine sr 3 rfl (ip' 3 0 [(4,.slice none 0 0),(5,iv (F1 to_))] ?_)
  subst hR
  refine ie (B5 ?_)
  exact zer hr hD (A5j rfl (C1 rfl) (C1 rfl)) ⟨VR.nil,VOk.nil⟩ (mc [[bx b5 (A4 to_) 67],[bx b3 (A4 from_) 67],[bx b2 (A4 to_) 67],[bx b1 (A4 from_) 67],vo A0 26 VR.nil ([]:List Act)] [false,false,false,false,true] rfl (by first|rfl|(simp only [List.length_set]<;>rfl))) fn0
 refine B1 (nx (A5 2 rfl (ix rfl (B7 (c:=2) rfl rfl rfl rfl (by decide)) (ip' 1 0 [(12,iv 2)] (A7 (D7 (sr 1 rfl (ip' 1 0 [(13,bv false)] (ie (A8 (A4y rfl (H7 (nx (sr 5 rfl (zrl 2 3 [3,2] [(21,ag (A4 from_)),(22,ag (A4 to_))] ?_)))))))))))))))
 have hQ:=D0 hR;clear hR;obtain ⟨y5,hy5,hR⟩:=hQ
 refine it rfl (G8 (L2:=[bx b5 (A4 to_) 67,bx b3 (A4 from_) 67,bx b2 (A4 to_) 67,bx b1 (A4 from_) 67]) (B6k from_ to_ y5 hy5) rfl rfl rfl rfl rfl fn0 (List.Perm.refl _) (fun ⟨r7,hk8⟩=>(bx b5 (A4 to_) 67::bx b3 (A4 from_) 67::bx b2 (A4 to_) 67::bx b1 (A4 from_) 67::(vo A0 26 r7 y5)++([]))) (fun ⟨r7,hk8⟩=>F8 [vo A0 26 r7 y5,[bx b5 (A4 to_) 67],[bx b3 (A4 from_) 67],[bx b2 (A4 to_) 67],[bx b1 (A4 from_) 67]] [1,2,3,4,0] 5 rfl (by decide) (by first|rfl|simp) [[bx b5 (A4 to_) 67],[bx b3 (A4 from_) 67],[bx b2 (A4 to_) 67],[bx b1 (A4 from_) 67],vo A0 26 r7 y5] rfl (by first|rfl|simp))) fun ⟨r7,hk8⟩=>?_
 have:=VOk.le hk8
 have:=VOk.cap hk8
 have:=B3r from_ to_;try rw [hy5] at this
 refine ip' 2 0 [(4,.slice (va r7.q) y5.length r7.k),(5,iv 0)] ?_
 subst hR
 refine ie (B5 ?_)
 exact zer hr hD (A5j rfl (C1 rfl) (C1 rfl)) ⟨r7,hk8⟩ (mc [[bx b5 (A4 to_) 67],[bx b3 (A4 from_) 67],[bx b2 (A4 to_) 67],[bx b1 (A4 from_) 67],vo A0 26 r7 y5] [false,false,false,false,true] rfl (by first|rfl|(simp only [List.length_set]<;>rfl))) fn0
def A7o (to_:Sty):List Act :=
 (B6 (A3z Sty.zero to_) fun (y5:List Act)=>(([{Act.zero with kind:=39,n:=0}]:List Act)++y5))
theorem B4x (t:Sty):A7o t=kA 0 0::chg Sty.zero t:=by unfold A7o B6;rw [A3s];rfl
theorem B9h (t:Sty):(A7o t).length≤22:=by rw [B4x];have:=C6v Sty.zero t;simp only [List.length_cons];omega
theorem B8u (t:Sty):∀ a ∈ A7o t,D2m a:=by
 rw [B4x];intro a ha
 rcases List.mem_cons.1 ha with rfl | ha
 ·exact ⟨rfl,rfl⟩
 ·exact D3o _ _ a ha
theorem D1x (to_:Sty) (R:List Act) (hR:A7o to_=R):Con Tryz.prog 217 [ag (A4 to_)] [] [] ({r:VR // VOk 6 R.length r}) (fun x=>.slice (va x.1.q) R.length x.1.k) (fun x=>((vo A0 26 x.1 R)++([]))) (fun x=>[]):=by
 refine zco Tryz.func217 [(0,ag (A4 to_))] fun X hX hr hD=>?_
 replace hR:=(A7o.eq_1 ..).symm.trans hR
 refine sr 2 rfl (M8 2 0 [] (fun b1=>[(1,pt b1 0)]) (fun b1=>[bx b1 (A4 to_) 67]) (fun b1=>(ie (sr 7 rfl (zrl 1 6 [] [(3,ag (A0 ({Act.zero with kind:=39,n:=0})))] (it rfl (C6y (c:=A0) (xs:=([{Act.zero with kind:=39,n:=0}]:List Act)) A1n rfl rfl rfl (by kernel_rfl)) fun b2=>?_))))))
 have:([{Act.zero with kind:=39,n:=0}]:List Act).length=1:=rfl
 refine zrl 1 4 [] [(5,ag (A4 Sty.zero))] (ix rfl (F6 (us:=A4 to_) B5d rfl rfl 1 rfl rfl rfl) ?_)
 have hQ:=D0 hR;clear hR;obtain ⟨y5,hy5,hR⟩:=hQ
 refine it rfl (G8 (L2:=((vo A0 26 (⟨some b2,1,[]⟩:VR) ([{Act.zero with kind:=39,n:=0}]:List Act))++(bx b1 (A4 to_) 67::[]))) (B6k Sty.zero to_ y5 hy5) rfl rfl rfl rfl rfl fn0 (List.Perm.refl _) (fun ⟨r3,hk4⟩=>(bx b1 (A4 to_) 67::(vo A0 26 r3 y5)++((vo A0 26 (⟨some b2,1,[]⟩:VR) ([{Act.zero with kind:=39,n:=0}]:List Act))++([])))) (fun ⟨r3,hk4⟩=>F8 [vo A0 26 r3 y5,vo A0 26 (⟨some b2,1,[]⟩:VR) ([{Act.zero with kind:=39,n:=0}]:List Act),[bx b1 (A4 to_) 67]] [2,0,1] 3 rfl (by decide) (by first|rfl|simp) [[bx b1 (A4 to_) 67],vo A0 26 r3 y5,vo A0 26 (⟨some b2,1,[]⟩:VR) ([{Act.zero with kind:=39,n:=0}]:List Act)] rfl (by first|rfl|simp))) fun ⟨r3,hk4⟩=>?_
 have:=VOk.le hk4
 have:=VOk.cap hk4
 have:=B3r Sty.zero to_;try rw [hy5] at this
 refine A3f [bx b1 (A4 to_) 67] ((vo A0 26 (⟨some b2,1,[]⟩:VR) ([{Act.zero with kind:=39,n:=0}]:List Act))++([])) (T:=26) (c:=A0) (r:=r3) (xs:=y5) hk4 (by first|rfl|simp) ?_
 refine it rfl (B8q (f:=A0) (r:=(⟨some b2,1,[]⟩:VR)) (xs:=([{Act.zero with kind:=39,n:=0}]:List Act)) (ys:=y5) (pre:=[bx b1 (A4 to_) 67]) (post:=[]) B0y (fun _=>rfl) (fun _=>rfl) rfl rfl rfl rfl rfl rfl rfl rfl (B0 0 rfl) (show VOk 6 1 _ from ⟨rfl,Nat.le_refl _,Nat.le_of_ble_eq_true rfl⟩) (by first|omega|(simp<;>omega)) (by first|omega|(simp<;>omega))) fun ⟨r5,hr6⟩=>?_
 have:=VOk.le hr6
 have:=VOk.cap hr6
 refine ip' 1 0 [(2,.slice (va r5.q) ((([{Act.zero with kind:=39,n:=0}]:List Act)++y5).length) r5.k)] ?_
 subst hR
 refine ie (B5 ?_)
 exact zer hr hD (Q9 rfl (C1 rfl)) ⟨r5,hr6⟩ (mc [[bx b1 (A4 to_) 67],vo A0 26 r5 (([{Act.zero with kind:=39,n:=0}]:List Act)++y5)] [false,true] rfl (by first|rfl|(simp only [List.length_set]<;>rfl))) fn0
def B9n (l:List Act):Int×Int :=
 (B6 (N7 l) fun (y15:List UInt8×Int)=>((y15.1.length:Int),y15.2))
theorem C3p (l:List Act) (lq:Option Addr) (lk:Nat) (hll:l.length≤9223372036854775807) (hcl:l.length≤lk) (hpen:∀ a ∈ l,D2m a) (hlen:l.length≤2000) (R:Int×Int) (hR:B9n l=R):N1 Tryz.prog 218 [.slice lq l.length lk] [sl A0 lq l,A1y,A1z,M9,M1,I6,N9] (.tuple #[iv R.1,iv R.2]):=by
 refine zco Tryz.func218 [(0,.slice lq l.length lk)] fun X hX hr hD=>?_
 replace hR:=(B9n.eq_1 ..).symm.trans hR
 refine sr 2 rfl (ip' 2 0 [] (ie (sr 7 rfl (ip' 1 6 [(7,.slice lq l.length lk)] ?_))))
 have hQ:=D0 hR;clear hR;obtain ⟨y15,hy15,hR⟩:=hQ
 refine it rfl (C4 (L2:=[]) (A9c l lq lk (by first|omega|(simp<;>omega)|(dsimp only;omega)|decide) (by first|omega|(simp<;>omega)|(dsimp only;omega)|decide) (by first|exact fun x hx=>by rw [(hpen x hx).2];exact Nat.zero_le _|exact fun x hx=>hnt x hx|assumption|decide|exact fun x hx=>Nat.le_trans (hrow x hx) (by decide)|exact fun x hx=>Nat.le_trans (of_decide_eq_true (List.all_eq_true.1 hbt x hx)) (by decide)|(intro x hx;simp only [List.nil_append,List.mem_append] at hx;rcases hx with hx|hx<;>first|exact Nat.le_trans (hrow x hx) (by decide)|exact Nat.le_trans (hpt x hx) (by decide))|(intro x hx;rw [List.mem_singleton.1 hx];omega)|exact fun x hx=>Nat.le_trans (hrow x (List.mem_of_mem_take hx)) (by decide)|exact fun x hx=>Nat.le_trans (hrow x (List.mem_of_mem_drop hx)) (by decide)|exact fun x hx=>Nat.le_trans (hrow x (List.mem_of_mem_drop (List.mem_of_mem_take hx))) (by decide)|omega) y15 hy15) rfl rfl rfl rfl rfl A2.refl (List.Perm.refl _) (fun ⟨r1,hk2⟩=>((vo cU8 5 r1 y15.1)++([]))) (fun _=>by first|rfl|simp)) fun ⟨r1,hk2⟩=>?_
 have:=VOk.le hk2
 have:=VOk.cap hk2
 try have:=A6b l (fun x hx=>Nat.le_trans (hrow x (by first|exact hx|exact List.mem_of_mem_take hx|exact List.mem_of_mem_drop hx)) (by decide));try rw [hy15] at this
 refine ip' 5 0 [(4,.slice (va r1.q) y15.1.length r1.k),(5,iv y15.2)] (ie (sr 5 rfl (ip' 5 0 [(2,iv (y15.1.length:Int)),(3,iv y15.2)] ?_)))
 subst hR
 refine ie (B5 ?_)
 exact A9s hr hD
def A2y (from_:Sty) (to_:Sty):List Act×Int :=
 (B6 (A0t from_ to_) fun (y2:List Act×Int)=>(bif ((!decide (y2.2=0))||(decide (from_=to_))) then (([]:List Act),y2.2) else (B6 (A7o to_) fun (y4:List Act)=>(B6 (B9n y2.1) fun (y3:Int×Int)=>(B6 (B9n y4) fun (y9:Int×Int)=>(bif (((!decide (y3.2=0))||(!decide (y9.2=0)))||(decide (y3.1≤y9.1))) then (y2.1,0) else (y4,0)))))))
theorem B1w (f t:Sty):(A2y f t).1.length≤22:=by
 have h:=B3o f t;have h2:=B9h t
 unfold A2y;simp only [B6,Bool.cond_eq_ite];repeat' split
 all_goals first|exact h2|exact Nat.le_trans h (by omega)|simp
theorem B1v (f t:Sty):∀ a ∈ (A2y f t).1,D2m a:=by
 have h:=B3n f t;have h2:=B8u t
 unfold A2y;simp only [B6,Bool.cond_eq_ite];repeat' split
 all_goals first|exact h2|exact h|simp
theorem C9i (from_:Sty) (to_:Sty) (R:List Act×Int) (hR:A2y from_ to_=R):Con Tryz.prog 199 [ag (A4 from_),ag (A4 to_)] [] [A1y,A1z,M9,M1,I6,N9] ({r:VR // VOk 6 R.1.length r}) (fun x=>.tuple #[.slice (va x.1.q) R.1.length x.1.k,iv R.2]) (fun x=>((vo A0 26 x.1 R.1)++([]))) (fun x=>[]):=by
 refine zco Tryz.func199 [(0,ag (A4 from_)),(1,ag (A4 to_))] fun X hX hr hD=>?_
 replace hR:=(A2y.eq_1 ..).symm.trans hR
 refine sr 4 rfl (B9a 4 0 [] (fun b1 b2=>[(2,pt b1 0),(3,pt b2 0)]) (fun b1 b2=>[bx b2 (A4 to_) 67,bx b1 (A4 from_) 67]) (fun b1 b2=>(ie (sr 8 rfl (zrl 2 6 [1,0] [(13,ag (A4 from_)),(14,ag (A4 to_))] ?_)))))
 have hQ:=D0 hR;clear hR;obtain ⟨y2,hy2,hR⟩:=hQ
 refine it rfl (G8 (L2:=[bx b2 (A4 to_) 67,bx b1 (A4 from_) 67]) (C5p from_ to_ y2 hy2) rfl rfl rfl rfl rfl fn0 (List.Perm.refl _) (fun ⟨r3,hk4⟩=>(bx b2 (A4 to_) 67::bx b1 (A4 from_) 67::(vo A0 26 r3 y2.1)++([]))) (fun ⟨r3,hk4⟩=>F8 [vo A0 26 r3 y2.1,[bx b2 (A4 to_) 67],[bx b1 (A4 from_) 67]] [1,2,0] 3 rfl (by decide) (by first|rfl|simp) [[bx b2 (A4 to_) 67],[bx b1 (A4 from_) 67],vo A0 26 r3 y2.1] rfl (by first|rfl|simp))) fun ⟨r3,hk4⟩=>?_
 have:=VOk.le hk4
 have:=VOk.cap hk4
 have:=B3o from_ to_;try rw [hy2] at this
 have:=B3n from_ to_;try rw [hy2] at this
 refine ip' 5 0 [(6,.slice (va r3.q) y2.1.length r3.k),(7,iv y2.2)] (ie (A8 (sr 7 rfl (ip' 3 4 [(20,bv (!decide (y2.2=0)))] ?_))))
 refine zio 4 0 20 24 (decide (from_=to_)) (fun g5=>?_) ?_
 ·have g5p:¬ (¬ y2.2=0):=by simpa using g5
  refine zrl 2 2 [1,0] [(21,ag (A4 from_)),(22,ag (A4 to_))] (ix rfl (B2s (a:=from_) (b:=to_) D0r rfl rfl rfl) (ip' 1 0 [(24,bv (decide (from_=to_)))] ?_))
  exact A7 (U9 5 20 24 g5 A2.refl (mc [[bx b2 (A4 to_) 67],[bx b1 (A4 from_) 67],vo A0 26 r3 y2.1] [true,true,true] rfl (by first|rfl|(simp only [List.length_set]<;>rfl))) rfl rfl rfl rfl rfl)
 refine ie ?_
 refine zjb rfl hR ?_ ?_<;>clear hR<;>intro hR h6
 ·have h6p:(¬ y2.2=0)∨(from_=to_):=by simpa using h6
  refine sr 3 rfl (ip' 3 0 [(4,.slice none 0 0),(5,iv y2.2)] ?_)
  subst hR
  refine ie (B5 ?_)
  exact zer hr hD (A5j rfl (C1 rfl) (C1 rfl)) ⟨VR.nil,VOk.nil⟩ (mc [[bx b2 (A4 to_) 67],[bx b1 (A4 from_) 67],vo A0 26 r3 y2.1,vo A0 26 VR.nil ([]:List Act)] [false,false,false,true] rfl (by first|rfl|(simp only [List.length_set]<;>rfl))) fn0
 have h6p:¬ ((¬ y2.2=0)∨(from_=to_)):=by simpa using h6
 refine B1 (nx (sr 3 rfl (zrl 1 2 [0] [(26,ag (A4 to_))] ?_)))
 have hQ:=D0 hR;clear hR;obtain ⟨y4,hy4,hR⟩:=hQ
 refine it rfl (G8 (L2:=(bx b2 (A4 to_) 67::bx b1 (A4 from_) 67::(vo A0 26 r3 y2.1)++([]))) (D1x to_ y4 hy4) rfl rfl rfl rfl rfl fn0 (List.Perm.refl _) (fun ⟨r7,hk8⟩=>(bx b2 (A4 to_) 67::bx b1 (A4 from_) 67::(vo A0 26 r7 y4)++((vo A0 26 r3 y2.1)++([])))) (fun ⟨r7,hk8⟩=>F8 [vo A0 26 r7 y4,[bx b2 (A4 to_) 67],[bx b1 (A4 from_) 67],vo A0 26 r3 y2.1] [1,2,0,3] 4 rfl (by decide) (by first|rfl|simp) [[bx b2 (A4 to_) 67],[bx b1 (A4 from_) 67],vo A0 26 r7 y4,vo A0 26 r3 y2.1] rfl (by first|rfl|simp))) fun ⟨r7,hk8⟩=>?_
 have:=VOk.le hk8
 have:=VOk.cap hk8
 have:=B9h to_;try rw [hy4] at this
 have:=B8u to_;try rw [hy4] at this
 refine ip' 1 0 [(8,.slice (va r7.q) y4.length r7.k)] (ie (sr 7 rfl (ip' 1 6 [(29,.slice (va r3.q) y2.1.length r3.k)] ?_)))
 have:=VOk.cap hk4
 have:=VOk.le hk4
 have hQ:=D0 hR;clear hR;obtain ⟨y3,hy3,hR⟩:=hQ
 refine it rfl (G8 (L2:=(bx b2 (A4 to_) 67::bx b1 (A4 from_) 67::(vo A0 26 r7 y4)++([]))) (Con.lend (T:=26) hk4 (C3p y2.1 (va r3.q) r3.k (by first|omega|(simp<;>omega)|(dsimp only;omega)|decide) (by first|omega|(simp<;>omega)|(dsimp only;omega)|decide) (by first|assumption|omega) (by first|omega|(simp<;>omega)) y3 hy3)) rfl rfl rfl rfl rfl A2.refl (F8 [[bx b2 (A4 to_) 67],[bx b1 (A4 from_) 67],vo A0 26 r7 y4,vo A0 26 r3 y2.1] [3,0,1,2] 4 rfl (by decide) rfl [vo A0 26 r3 y2.1,[bx b2 (A4 to_) 67],[bx b1 (A4 from_) 67],vo A0 26 r7 y4] rfl (by first|rfl|simp)) (fun _=>(bx b2 (A4 to_) 67::bx b1 (A4 from_) 67::(vo A0 26 r3 y2.1)++((vo A0 26 r7 y4)++([])))) (fun _=>F8 [vo A0 26 r3 y2.1,[bx b2 (A4 to_) 67],[bx b1 (A4 from_) 67],vo A0 26 r7 y4] [1,2,0,3] 4 rfl (by decide) (by first|rfl|simp) [[bx b2 (A4 to_) 67],[bx b1 (A4 from_) 67],vo A0 26 r3 y2.1,vo A0 26 r7 y4] rfl (by first|rfl|simp))) fun _=>?_
 refine ip' 5 0 [(9,iv y3.1),(7,iv y3.2)] (ie (sr 7 rfl (ip' 1 6 [(34,.slice (va r7.q) y4.length r7.k)] ?_)))
 have:=VOk.cap hk8
 have:=VOk.le hk8
 have hQ:=D0 hR;clear hR;obtain ⟨y9,hy9,hR⟩:=hQ
 refine it rfl (G8 (L2:=(bx b2 (A4 to_) 67::bx b1 (A4 from_) 67::(vo A0 26 r3 y2.1)++([]))) (Con.lend (T:=26) hk8 (C3p y4 (va r7.q) r7.k (by first|omega|(simp<;>omega)|(dsimp only;omega)|decide) (by first|omega|(simp<;>omega)|(dsimp only;omega)|decide) (by first|assumption|omega) (by first|omega|(simp<;>omega)) y9 hy9)) rfl rfl rfl rfl rfl A2.refl (F8 [[bx b2 (A4 to_) 67],[bx b1 (A4 from_) 67],vo A0 26 r3 y2.1,vo A0 26 r7 y4] [3,0,1,2] 4 rfl (by decide) rfl [vo A0 26 r7 y4,[bx b2 (A4 to_) 67],[bx b1 (A4 from_) 67],vo A0 26 r3 y2.1] rfl (by first|rfl|simp)) (fun _=>(bx b2 (A4 to_) 67::bx b1 (A4 from_) 67::(vo A0 26 r7 y4)++((vo A0 26 r3 y2.1)++([])))) (fun _=>F8 [vo A0 26 r7 y4,[bx b2 (A4 to_) 67],[bx b1 (A4 from_) 67],vo A0 26 r3 y2.1] [1,2,0,3] 4 rfl (by decide) (by first|rfl|simp) [[bx b2 (A4 to_) 67],[bx b1 (A4 from_) 67],vo A0 26 r7 y4,vo A0 26 r3 y2.1] rfl (by first|rfl|simp))) fun _=>?_
 refine ip' 5 0 [(10,iv y9.1),(11,iv y9.2)] (ie (A8 (sr 11 rfl (ip' 3 8 [(40,bv (!decide (y3.2=0)))] ?_))))
 refine zio 3 5 40 43 (!decide (y9.2=0)) (fun g9=>?_) ?_
 ·have g9p:¬ (¬ y3.2=0):=by simpa using g9
  refine ip' 3 0 [(43,bv (!decide (y9.2=0)))] ?_
  exact A7 (U9 2 40 43 g9 A2.refl (mc [[bx b2 (A4 to_) 67],[bx b1 (A4 from_) 67],vo A0 26 r7 y4,vo A0 26 r3 y2.1] [true,true,true,true] rfl (by first|rfl|(simp only [List.length_set]<;>rfl))) rfl rfl rfl rfl rfl)
 refine ip' 1 4 [(44,bv ((!decide (y3.2=0))||(!decide (y9.2=0))))] ?_
 refine zio 4 0 44 48 (decide (y3.1≤y9.1)) (fun g10=>?_) ?_
 ·have g10p:¬ ((¬ y3.2=0)∨(¬ y9.2=0)):=by simpa using g10
  refine ip' 4 0 [(48,bv (decide (y3.1≤y9.1)))] ?_
  exact A7 (U9 2 44 48 g10 A2.refl (mc [[bx b2 (A4 to_) 67],[bx b1 (A4 from_) 67],vo A0 26 r7 y4,vo A0 26 r3 y2.1] [true,true,true,true] rfl (by first|rfl|(simp only [List.length_set]<;>rfl))) rfl rfl rfl rfl rfl)
 refine ie ?_
 refine zjb rfl hR ?_ ?_<;>clear hR<;>intro hR h11
 ·have h11p:((¬ y3.2=0)∨(¬ y9.2=0))∨(y3.1≤y9.1):=by simpa using h11
  refine sr 3 rfl (ip' 3 0 [(4,.slice (va r3.q) y2.1.length r3.k),(5,iv 0)] ?_)
  subst hR
  refine ie (B5 ?_)
  exact zer hr hD (A5j rfl (C1 rfl) (C1 rfl)) ⟨r3,hk4⟩ (mc [[bx b2 (A4 to_) 67],[bx b1 (A4 from_) 67],vo A0 26 r7 y4,vo A0 26 r3 y2.1] [false,false,false,true] rfl (by first|rfl|(simp only [List.length_set]<;>rfl))) fn0
 have h11p:¬ (((¬ y3.2=0)∨(¬ y9.2=0))∨(y3.1≤y9.1)):=by simpa using h11
 refine B1 (nx (sr 3 rfl (ip' 3 0 [(4,.slice (va r7.q) y4.length r7.k),(5,iv 0)] ?_)))
 subst hR
 refine ie (B5 ?_)
 exact zer hr hD (A5j rfl (C1 rfl) (C1 rfl)) ⟨r7,hk8⟩ (mc [[bx b2 (A4 to_) 67],[bx b1 (A4 from_) 67],vo A0 26 r7 y4,vo A0 26 r3 y2.1] [false,false,true,false] rfl (by first|rfl|(simp only [List.length_set]<;>rfl))) fn0
end Go.Proofs.YtanighkpfmgnbaaGreatDoor
set_option linter.unusedVariables false
set_option linter.unusedSimpArgs false
set_option linter.unnecessarySimpa false
set_option maxRecDepth 100000
namespace Go.Proofs.YtanighkpfmgnbaaGreatDoor
open Go Go.Fen
theorem D9n:EqT Tryz.prog 73 L9:=EqT.of 20 rfl (by kernel_rfl) (by kernel_rfl) (fun _ _=>by kernel_rfl) L9.inj
theorem B7r:SlTy Tryz.prog 65 73 12:=⟨by kernel_rfl,by kernel_rfl⟩
theorem D6b:Ty Tryz.prog 73 12 true:=⟨by kernel_rfl⟩
def A5z (c:Cel):Bool :=
 (decide (c={Cel.zero with wide:=2,sty:=c.sty}))
theorem D2v (c:Cel) (R:Bool) (hR:A5z c=R):N1 Tryz.prog 153 [ag (L9 c)] [] (bv R):=by
 refine zco Tryz.func153 [(0,ag (L9 c))] fun X hX hr hD=>?_
 replace hR:=(A5z.eq_1 ..).symm.trans hR
 refine sr 2 rfl (M8 2 0 [] (fun b1=>[(1,pt b1 0)]) (fun b1=>[bx b1 (L9 c) 73]) (fun b1=>(ie (sr 6 rfl (zrl 4 2 [0,0] [(3,ag (L9 c)),(6,ag (L9 ({Cel.zero with wide:=2,sty:=c.sty})))] (ix rfl (B2s (a:=c) (b:={Cel.zero with wide:=2,sty:=c.sty}) D9n rfl rfl rfl) (ip' 1 0 [(2,bv (decide (c={Cel.zero with wide:=2,sty:=c.sty})))] ?_)))))))
 subst hR
 refine ie (B5 ?_)
 exact G1 hr hD
def A2b (l:Ar2):Bool :=
 (bif ((!decide (l.a=0))&&(!decide ((M7 l.a)=0))) then false else (bif ((!decide (l.b=0))&&((decide (l.a=0))||(!decide ((M7 l.b)=0)))) then false else true))
theorem C7y (l:Ar2) (R:Bool) (hR:A2b l=R):N1 Tryz.prog 154 [ag (B2r l)] [A1y,A1z] (bv R):=by
 refine zco Tryz.func154 [(0,ag (B2r l))] fun X hX hr hD=>?_
 replace hR:=(A2b.eq_1 ..).symm.trans hR
 refine sr 2 rfl (M8 2 0 [] (fun b1=>[(1,pt b1 0)]) (fun b1=>[bx b1 (B2r l) 71]) (fun b1=>(ie (sr 1 rfl (ip' 1 0 [(3,bv false)] (ie (A8 (sr 2 rfl (zrl 2 0 [0] [(6,ag (B2r l)),(7,iv 0)] (ie (B4 (Z8 4 ?_))))))))))))
 refine D7 (sr 1 rfl (ip' 1 0 [(8,bv true)] ?_))
 refine ie (A8 (K1 rfl (B1 (nx (A8 (B4 (sr 2 rfl (ix rfl (D8 (v:=iv l.a) (us:=[iv l.a]) Tryz.underlying71 ty3 rfl rfl rfl 0 rfl (by decide) rfl rfl rfl) (ip' 1 0 [(5,iv l.a)] (ie (A8 (sr 10 rfl (ip' 3 7 [(12,bv (!decide (l.a=0)))] ?_)))))))))))))
 refine zia 7 0 12 19 (!decide ((M7 l.a)=0)) (fun g2=>?_) ?_
 ·have g2p:¬ l.a=0:=by simpa using g2
  refine ip' 3 4 [(14,bv false),(15,iv l.a)] (zca (B3i l.a _ rfl) A2.refl (ip' 3 0 [(19,bv (!decide ((M7 l.a)=0)))] ?_))
  exact zai 5 12 19 g2
 refine ie ?_
 refine zjb rfl hR ?_ ?_<;>clear hR<;>intro hR h3
 ·have h3p:(¬ l.a=0)∧(¬ (M7 l.a)=0):=by simpa using h3
  refine sr 1 rfl (ip' 1 0 [(2,bv false)] ?_)
  subst hR
  refine ie (B5 ?_)
  exact G1 hr hD
 have h3p:¬ ((¬ l.a=0)∧(¬ (M7 l.a)=0)):=by simpa using h3
 refine B1 (nx (A5 6 rfl (ip' 6 0 [(3,bv (decide (l.a=0)))] (A7 (nx (A5 2 rfl (ix rfl (B7 (c:=1) rfl rfl rfl rfl (by decide)) (ip' 1 0 [(7,iv 1)] (A7 (D7 (sr 1 rfl (ip' 1 0 [(8,bv true)] (ie (A8 (K1 rfl (B1 (nx (A8 (B4 (sr 2 rfl (ix rfl (D8 (v:=iv l.b) (us:=[iv l.b]) Tryz.underlying71 ty3 rfl rfl rfl 1 rfl (by decide) rfl rfl rfl) (ip' 1 0 [(5,iv l.b)] (ie (A8 (sr 10 rfl (ip' 3 7 [(12,bv (!decide (l.b=0)))] ?_))))))))))))))))))))))))))
 refine zia 7 0 12 19 ((decide (l.a=0))||(!decide ((M7 l.b)=0))) (fun g4=>?_) ?_
 ·have g4p:¬ l.b=0:=by simpa using g4
  refine ip' 2 5 [(14,bv (decide (l.a=0)))] ?_
  refine zir 4 1 14 18 (!decide ((M7 l.b)=0)) (fun g5 g5p=>?_) ?_
  ·refine ip' 1 3 [(15,iv l.b)] (zca (B3i l.b _ rfl) A2.refl (ip' 2 0 [(18,bv (!decide ((M7 l.b)=0)))] ?_))
   exact zai 4 14 18 g5
  refine ip' 1 0 [(19,bv ((decide (l.a=0))||(!decide ((M7 l.b)=0))))] ?_
  exact zai 4 12 19 g4
 refine ie ?_
 refine zjb rfl hR ?_ ?_<;>clear hR<;>intro hR h6
 ·have h6p:(¬ l.b=0)∧((l.a=0)∨(¬ (M7 l.b)=0)):=by simpa using h6
  refine sr 1 rfl (ip' 1 0 [(2,bv false)] ?_)
  subst hR
  refine ie (B5 ?_)
  exact G1 hr hD
 have h6p:¬ ((¬ l.b=0)∧((l.a=0)∨(¬ (M7 l.b)=0))):=by simpa using h6
 refine B1 (nx (A5 6 rfl (ip' 2 4 [(21,bv (decide (l.a=0)))] ?_)))
 refine zir 3 1 21 24 (decide (l.b=0)) (fun g7 g7p=>?_) ?_
 ·refine ip' 3 0 [(24,bv (decide (l.b=0)))] ?_
  exact zai 2 21 24 g7
 refine ip' 1 0 [(3,bv ((decide (l.a=0))||(decide (l.b=0))))] (A7 (nx (A5 2 rfl (ix rfl (B7 (c:=2) rfl rfl rfl rfl (by decide)) (ip' 1 0 [(7,iv 2)] (A7 (D7 (sr 1 rfl (ip' 1 0 [(8,bv false)] (ie (A8 (A4y rfl (H7 (nx (sr 1 rfl (ip' 1 0 [(2,bv true)] ?_))))))))))))))))
 subst hR
 refine ie (B5 ?_)
 exact G1 hr hD
def N2 (c:Cel):Int :=
 (bif ((!((A5z c)||((((decide ((0:Int)≤c.wide))&&(decide (c.wide≤1)))&&(decide ((M7 c.base)=(IntKind.i64.wrap (c.wide+(1:Int))))))&&(A2b c.marks))))||(!decide ((F1 c.sty)=0))) then 221 else 0)
theorem C2e (c:Cel) (R:Int) (hR:N2 c=R):N1 Tryz.prog 109 [ag (L9 c)] [A1y,A1z] (iv R):=by
 refine zco Tryz.func109 [(0,ag (L9 c))] fun X hX hr hD=>?_
 replace hR:=(N2.eq_1 ..).symm.trans hR
 refine sr 2 rfl (M8 2 0 [] (fun b1=>[(1,pt b1 0)]) (fun b1=>[bx b1 (L9 c) 73]) (fun b1=>(ie (sd 27 rfl (by kernel_rfl) rfl ?_))))
 refine zdg 1 26 [0] [(4,ag (L9 c))] ?_
 refine zcd (D2v c _ rfl) fn0 ?_
 refine dp' 1 24 [(6,bv (A5z c))] ?_
 refine zdO 23 1 6 29 ((((decide ((0:Int)≤c.wide))&&(decide (c.wide≤1)))&&(decide ((M7 c.base)=(IntKind.i64.wrap (c.wide+(1:Int))))))&&(A2b c.marks)) (fun g2=>?_) ?_
 ·refine zdg 4 19 [0] [(10,bv (decide ((0:Int)≤c.wide)))] ?_
  refine zdd 4 15 10 14 (decide (c.wide≤1)) (fun g3 g3p=>?_) ?_
  ·refine zdg 4 0 [0] [(14,bv (decide (c.wide≤1)))] ?_
   exact zad 2 10 14 g3
  refine dp' 1 14 [(15,bv ((decide ((0:Int)≤c.wide))&&(decide (c.wide≤1))))] ?_
  refine zda 8 6 15 23 (decide ((M7 c.base)=(IntKind.i64.wrap (c.wide+(1:Int))))) (fun g4=>?_) ?_
  ·have g4p:((0:Int)≤c.wide)∧(c.wide≤1):=by simpa using g4
   refine zdg 2 6 [0] [(17,iv c.base)] ?_
   refine zcd (B3i c.base _ rfl) A2.refl ?_
   refine zdg 2 3 [0] [(20,iv c.wide)] ?_
   refine dd rfl (I5.pure rfl) (dp' 2 0 [(23,bv (decide ((M7 c.base)=(IntKind.i64.wrap (c.wide+(1:Int))))))] ?_)
   exact zad 6 15 23 g4
  refine dp' 1 5 [(24,bv (((decide ((0:Int)≤c.wide))&&(decide (c.wide≤1)))&&(decide ((M7 c.base)=(IntKind.i64.wrap (c.wide+(1:Int)))))))] ?_
  refine zda 4 1 24 28 (A2b c.marks) (fun g5=>?_) ?_
  ·have g5p:(((0:Int)≤c.wide)∧(c.wide≤1))∧((M7 c.base)=(IntKind.i64.wrap (c.wide+(1:Int)))):=by simpa using g5
   refine zdg 2 2 [0] [(26,ag (B2r c.marks))] ?_
   refine zcd (C7y c.marks _ rfl) A2.refl ?_
   refine dp' 1 0 [(28,bv (A2b c.marks))] ?_
   exact zad 4 24 28 g5
  refine dp' 1 0 [(29,bv ((((decide ((0:Int)≤c.wide))&&(decide (c.wide≤1)))&&(decide ((M7 c.base)=(IntKind.i64.wrap (c.wide+(1:Int))))))&&(A2b c.marks)))] ?_
  exact zad 8 6 29 g2
 refine dp' 1 0 [(3,bv ((A5z c)||((((decide ((0:Int)≤c.wide))&&(decide (c.wide≤1)))&&(decide ((M7 c.base)=(IntKind.i64.wrap (c.wide+(1:Int))))))&&(A2b c.marks))))] (de (A8 (sr 8 rfl (ip' 3 5 [(32,bv (!((A5z c)||((((decide ((0:Int)≤c.wide))&&(decide (c.wide≤1)))&&(decide ((M7 c.base)=(IntKind.i64.wrap (c.wide+(1:Int))))))&&(A2b c.marks)))))] ?_))))
 refine zio 5 0 32 37 (!decide ((F1 c.sty)=0)) (fun g6=>?_) ?_
 ·have g6p:=g6;try simp at g6p
  refine zrl 2 3 [0] [(34,ag (A4 c.sty))] (zca (A7k c.sty _ rfl) fn0 (ip' 2 0 [(37,bv (!decide ((F1 c.sty)=0)))] ?_))
  exact zai 4 32 37 g6
 refine ie ?_
 refine zjb rfl hR ?_ ?_<;>clear hR<;>intro hR h7
 ·have h7p:=h7;try simp at h7p
  refine sr 1 rfl (ip' 1 0 [(2,iv 221)] ?_)
  subst hR
  refine ie (B5 ?_)
  exact G1 hr hD
 have h7p:=h7;try simp at h7p
 refine B1 (nx (sr 1 rfl (ip' 1 0 [(2,iv 0)] ?_)))
 subst hR
 refine ie (B5 ?_)
 exact G1 hr hD
def W2:List Cel→Nat→Cel→Int
 | [],t19,last=>(bif (decide (last.wide=1)) then 220 else 0)
 | hd_l0::tl_l0,t19,last=>(bif (((!decide ((N2 hd_l0)=0))||(!((decide (last.wide=1)) == (decide (hd_l0.wide=2)))))||((decide (hd_l0.wide=2))&&(!(decide (hd_l0.sty=last.sty))))) then 220 else W2 tl_l0 (t19+1) hd_l0)
def V6 (rCells:List Cel) (rWrapped:Bool):Int :=
 (bif ((decide ((rCells.length:Int)<2))||(decide ((80:Int)<(rCells.length:Int)))) then 220 else W2 rCells 0 Cel.zero)
theorem wr6 {x:Int} (h:-1000000≤x∧x≤1000000):IntKind.i64.wrap x=x:=V9 (by show (-9223372036854775808:Int)≤_;omega) (by show _≤(9223372036854775807:Int);omega)
theorem D6e {c:Cel} (h:A5z c=true):c.wide=2:=by
 unfold A5z at h;rw [of_decide_eq_true h]
theorem D5b {c:Cel} (h:N2 c=0):0≤c.wide∧c.wide≤2:=by
 unfold N2 at h
 cases h1:A5z c with
 | true=>have:=D6e h1;omega
 | false =>
  rw [h1] at h
  by_cases h2:0≤c.wide∧c.wide≤1
  ·omega
  ·rw [show ((decide ((0:Int)≤c.wide))&&(decide (c.wide≤1)))=false by simp only [Bool.and_eq_false_iff,decide_eq_false_iff_not];omega] at h
   simp at h
theorem C6o:∀ (l:List Cel) (t:Nat) (last:Cel),W2 l t last=0→∀ c ∈ l,0≤c.wide∧c.wide≤2
 | [],_,_,_=>fun c hc=>by cases hc
 | x::l,t,last,h=>by
  rw [W2] at h
  by_cases h0:N2 x=0
  ·intro c hc
   rcases List.mem_cons.1 hc with rfl | hc
   ·exact D5b h0
   ·cases hb:(((!decide ((N2 x)=0))||(!((decide (last.wide=1)) == (decide (x.wide=2)))))||((decide (x.wide=2))&&(!(decide (x.sty=last.sty))))) with
    | true=>rw [hb] at h;exact absurd (show (220:Int)=0 from h) (by decide)
    | false=>rw [hb] at h;exact C6o l (t+1) x h c hc
  ·rw [decide_eq_false h0] at h;exact absurd (show (220:Int)=0 from h) (by decide)
theorem A5u {l:List Cel} {w:Bool} (h:V6 l w=0):2≤l.length∧l.length≤80∧∀ c ∈ l,0≤c.wide∧c.wide≤2:=by
 unfold V6 at h
 by_cases hl:2≤l.length∧l.length≤80
 ·rw [show ((decide ((l.length:Int)<2))||(decide ((80:Int)<(l.length:Int))))=false by simp only [Bool.or_eq_false_iff,decide_eq_false_iff_not];omega] at h
  exact ⟨hl.1,hl.2,C6o l 0 Cel.zero h⟩
 ·rw [show ((decide ((l.length:Int)<2))||(decide ((80:Int)<(l.length:Int))))=true by simp only [Bool.or_eq_true,decide_eq_true_eq];omega] at h
  exact absurd (show (220:Int)=0 from h) (by decide)
theorem D0p (rCells:List Cel) (rWrapped:Bool) (rCellsq:Option Addr) (rCellsk:Nat) (hlrCells:rCells.length≤9223372036854775807) (hcrCells:rCells.length≤rCellsk) (R:Int) (hR:V6 rCells rWrapped=R):N1 Tryz.prog 57 [ag [.slice rCellsq rCells.length rCellsk,bv rWrapped]] [sl L9 rCellsq rCells,A1y,A1z] (iv R):=by
 refine zco Tryz.func57 [(0,ag [.slice rCellsq rCells.length rCellsk,bv rWrapped])] fun X hX hr hD=>?_
 replace hR:=(V6.eq_1 ..).symm.trans hR
 refine sr 2 rfl (M8 2 0 [] (fun b1=>[(1,pt b1 0)]) (fun b1=>[bx b1 [.slice rCellsq rCells.length rCellsk,bv rWrapped] 115]) (fun b1=>(ie (A8 (sr 4 rfl (zrl 4 0 [0] [(3,iv (rCells.length:Int))] (ie (sr 6 rfl (ip' 3 3 [(12,bv (decide ((rCells.length:Int)<2)))] ?_)))))))))
 refine zir 3 0 12 15 (decide ((80:Int)<(rCells.length:Int))) (fun g2 g2p=>?_) ?_
 ·refine ip' 3 0 [(15,bv (decide ((80:Int)<(rCells.length:Int))))] ?_
  exact zai 2 12 15 g2
 refine ie ?_
 refine zjo rfl hR ?_ ?_<;>clear hR<;>intro hR h3 h3p
 ·refine sr 1 rfl (ip' 1 0 [(2,iv 220)] ?_)
  subst hR
  refine ie (B5 ?_)
  exact G1 hr hD
 refine B1 (nx (sr 1 rfl (M8 1 0 [] (fun b4=>[(4,pt b4 0)]) (fun b4=>[bx b4 (L9 Cel.zero) 73,bx b1 [.slice rCellsq rCells.length rCellsk,bv rWrapped] 115]) (fun b4=>(ie (A8 (sr 4 rfl (zrl 4 0 [1] [(17,.slice rCellsq rCells.length rCellsk),(18,iv (rCells.length:Int)),(19,iv 0)] (ie (B4 (E7e (fun (t19:Nat) (last:Cel)=>(t19≤rCells.length∧W2 (rCells.drop t19) t19 last=R,[(4,pt b4 0),(17,.slice rCellsq rCells.length rCellsk),(18,iv (rCells.length:Int)),(19,iv (t19:Int))],[bx b4 (L9 last) 73,bx b1 [.slice rCellsq rCells.length rCellsk,bv rWrapped] 115],[sl L9 rCellsq rCells,A1y,A1z],rCells.length - t19)) 0 Cel.zero ⟨(by omega),hR⟩ (mk [true,true] rfl) A2.refl ?_)))))))))))
 rintro t19 last ⟨hm5,hR⟩
 refine sr 1 rfl (ip' 1 0 [(20,bv (decide ((t19:Int)<(rCells.length:Int))))] ?_)
 refine ie (A8 (A1q rfl (fun h6=>?_) (fun h6=>?_)))
 ·have h6p:(t19:Int)<(rCells.length:Int):=by simpa using h6
  rw [A5r Cel.zero (show t19<rCells.length by omega)] at hR;replace hR:=(W2.eq_2 ..).symm.trans hR
  refine B1 (nx (A8 (B4 (sr 4 rfl (S9 0 rfl (by omega) fun a7 hq8=>(ix rfl (M2 B7r rfl rfl hq8 rfl t19 rfl (by omega)) (ix rfl (N8 (us:=L9 (rCells.getD t19 Cel.zero)) D6b rfl rfl (O2 (c:=L9) (sz:=12) hq8 (fun _=>rfl) 0 rfl (gd Cel.zero (by omega))) rfl) ?_)))))))
  refine M8 2 0 [0] (fun b9=>[(6,pt b9 0)]) (fun b9=>[bx b9 (L9 (rCells.getD t19 Cel.zero)) 73,bx b4 (L9 last) 73,bx b1 [.slice rCellsq rCells.length rCellsk,bv rWrapped] 115]) (fun b9=>?_)
  refine ie (A8 (sr 24 rfl (zrl 1 23 [0] [(23,ag (L9 (rCells.getD t19 Cel.zero)))] (zca (C2e (rCells.getD t19 Cel.zero) _ rfl) (A2.pick [1,2] rfl) (ip' 2 20 [(26,bv (!decide ((N2 (rCells.getD t19 Cel.zero))=0)))] ?_)))))
  refine zio 8 12 26 34 (!((decide (last.wide=1)) == (decide ((rCells.getD t19 Cel.zero).wide=2)))) (fun g10=>?_) ?_
  ·have g10p:¬ (¬ (N2 (rCells.getD t19 Cel.zero))=0):=by simpa using g10
   refine zrl 6 2 [1,0] [(29,bv (decide (last.wide=1))),(32,bv (decide ((rCells.getD t19 Cel.zero).wide=2)))] (ix rfl (E0a Tryz.underlying4 rfl rfl rfl) (ip' 1 0 [(34,bv (!((decide (last.wide=1)) == (decide ((rCells.getD t19 Cel.zero).wide=2)))))] ?_))
   exact zai 5 26 34 g10
  refine ip' 1 11 [(35,bv ((!decide ((N2 (rCells.getD t19 Cel.zero))=0))||(!((decide (last.wide=1)) == (decide ((rCells.getD t19 Cel.zero).wide=2))))))] ?_
  refine zio 11 0 35 46 ((decide ((rCells.getD t19 Cel.zero).wide=2))&&(!(decide ((rCells.getD t19 Cel.zero).sty=last.sty)))) (fun g11=>?_) ?_
  ·have g11p:=g11;try simp at g11p
   refine zrl 4 7 [0] [(39,bv (decide ((rCells.getD t19 Cel.zero).wide=2)))] ?_
   refine zid 6 1 39 45 (!(decide ((rCells.getD t19 Cel.zero).sty=last.sty))) (fun g12 g12p=>?_) ?_
   ·refine zrl 4 2 [0,1] [(41,ag (A4 ((rCells.getD t19 Cel.zero).sty))),(43,ag (A4 last.sty))] (ix rfl (V8 (a:=(rCells.getD t19 Cel.zero).sty) (b:=last.sty) D0r rfl rfl rfl) (ip' 1 0 [(45,bv (!(decide ((rCells.getD t19 Cel.zero).sty=last.sty))))] ?_))
    exact zai 5 39 45 g12
   refine ip' 1 0 [(46,bv ((decide ((rCells.getD t19 Cel.zero).wide=2))&&(!(decide ((rCells.getD t19 Cel.zero).sty=last.sty)))))] ?_
   exact zai 4 35 46 g11
  refine ie ?_
  refine zjb rfl hR ?_ ?_<;>clear hR<;>intro hR h13
  ·have h13p:=h13;try simp at h13p
   refine sr 1 rfl (ip' 1 0 [(2,iv 220)] ?_)
   subst hR
   refine ie (B5 ?_)
   exact G1 hr hD
  have h13p:=h13;try simp at h13p
  refine B1 (nx (A5 2 rfl (zrg 2 0 [0,1] [] [bx b9 (L9 (rCells.getD t19 Cel.zero)) 73,bx b4 (L9 (rCells.getD t19 Cel.zero)) 73,bx b1 [.slice rCellsq rCells.length rCellsk,bv rWrapped] 115] (A7 (nx (A5 2 rfl (ix rfl (B7 rfl rfl rfl rfl (by omega)) (ip' 1 0 [(19,iv ((t19:Int)+1))] (A7 ?_)))))))))
  exact E5q (z1:=t19) (z2:=last) (t19+1) (rCells.getD t19 Cel.zero) ⟨(by omega),hR⟩ (by (try dsimp only);omega) (mk [false,true,true] rfl) A2.refl
 have h6p:¬ ((t19:Int)<(rCells.length:Int)):=by simpa using h6
 rw [A5s h6p] at hR;replace hR:=(W2.eq_1 ..).symm.trans hR
 refine H7 (nx (A8 (sr 3 rfl (zrl 3 0 [0] [(51,bv (decide (last.wide=1)))] ?_))))
 refine ie ?_
 refine zjd rfl hR ?_ ?_<;>clear hR<;>intro hR h14 h14p
 ·refine sr 1 rfl (ip' 1 0 [(2,iv 220)] ?_)
  subst hR
  refine ie (B5 ?_)
  exact G1 hr hD
 refine B1 (nx (sr 1 rfl (ip' 1 0 [(2,iv 0)] ?_)))
 subst hR
 refine ie (B5 ?_)
 exact G1 hr hD
end Go.Proofs.YtanighkpfmgnbaaGreatDoor
set_option linter.unusedVariables false
set_option linter.unusedSimpArgs false
set_option linter.unnecessarySimpa false
set_option maxRecDepth 100000
namespace Go.Proofs.YtanighkpfmgnbaaGreatDoor
open Go Go.Fen
theorem E5p:EqT Tryz.prog 71 B2r:=EqT.of 20 rfl (by kernel_rfl) (by kernel_rfl) (fun _ _=>by kernel_rfl) B2r.inj
def Z9 (c:Cel):Bool :=
 ((decide (c.wide=0))&&(decide (c.marks=Ar2.zero)))
theorem B8l (c:Cel) (R:Bool) (hR:Z9 c=R):N1 Tryz.prog 158 [ag (L9 c)] [] (bv R):=by
 refine zco Tryz.func158 [(0,ag (L9 c))] fun X hX hr hD=>?_
 replace hR:=(Z9.eq_1 ..).symm.trans hR
 refine sr 2 rfl (M8 2 0 [] (fun b1=>[(1,pt b1 0)]) (fun b1=>[bx b1 (L9 c) 73]) (fun b1=>(ie (sr 10 rfl (zrl 4 6 [0] [(6,bv (decide (c.wide=0)))] ?_)))))
 refine zid 5 1 6 11 (decide (c.marks=Ar2.zero)) (fun g2 g2p=>?_) ?_
 ·refine zrl 3 2 [0] [(8,ag (B2r c.marks)),(9,ag (B2r Ar2.zero))] (ix rfl (B2s (a:=c.marks) (b:=Ar2.zero) E5p rfl rfl rfl) (ip' 1 0 [(11,bv (decide (c.marks=Ar2.zero)))] ?_))
  exact A7 (U9 5 6 11 g2 fn0 (mk [true] rfl) rfl rfl rfl rfl rfl)
 refine ip' 1 0 [(2,bv ((decide (c.wide=0))&&(decide (c.marks=Ar2.zero))))] ?_
 subst hR
 refine ie (B5 ?_)
 exact G1 hr hD
end Go.Proofs.YtanighkpfmgnbaaGreatDoor
set_option linter.unusedVariables false
set_option linter.unusedSimpArgs false
set_option linter.unnecessarySimpa false
set_option maxRecDepth 100000
namespace Go.Proofs.YtanighkpfmgnbaaGreatDoor
open Go Go.Fen
structure Prn where
 sign:Cel
 many:Int
 at_:Int
 til:Int
deriving DecidableEq
def C3 (x:Prn):List Value:=L9 x.sign++([.int .i64 x.many,.int .i64 x.at_,.int .i64 x.til])
def Prn.zero:Prn:=⟨Cel.zero,0,0,0⟩
theorem C3.inj (x y:Prn) (h:C3 x=C3 y):x=y:=by
 rcases x with ⟨⟨_,⟨_,_⟩,_,⟨_,_,⟨_,_⟩,⟨_,_⟩,⟨_,_⟩⟩⟩,_,_,_⟩
 rcases y with ⟨⟨_,⟨_,_⟩,_,⟨_,_,⟨_,_⟩,⟨_,_⟩,⟨_,_⟩⟩⟩,_,_,_⟩
 simp [B2r,L9,K3,C3,A4,bs] at h
 simp_all
theorem D7e {c0 c1:Int} {c2:List Cel} {r:Prn} (hv:(∀ c ∈ c2,0≤c.wide∧c.wide≤2)∧c2.length≤80∧0≤c0∧c1≤c2.length) (h:r.til<c1∧c2.getD r.til.toNat Cel.zero=r.sign) (h0:0≤r.til):0≤r.sign.wide∧r.sign.wide≤2:=by
 have hlt:r.til.toNat<c2.length:=by omega
 have hs:=h.2
 rw [gdE hlt] at hs
 rw [← hs];exact hv.1 _ (List.getElem_mem hlt)
abbrev pbx (b:Nat) (s:Sty) (r:VR) (n:Nat) (a:Int):Nat×Obj:=bx b [iv s.attr,iv s.under,iv s.fore.kind,iv s.fore.n,iv s.back.kind,iv s.back.n,iv s.line.kind,iv s.line.n,.slice (va r.q) n r.k,iv a] 121
abbrev obx (b:Nat) (s:Sty) (r:VR) (n:Nat) (a:Int):Nat×Obj:=bx b [.slice (va r.q) n r.k,iv s.attr,iv s.under,iv s.fore.kind,iv s.fore.n,iv s.back.kind,iv s.back.n,iv s.line.kind,iv s.line.n,iv a] 176
abbrev zbx (b:Nat):Nat×Obj:=bx b [.slice none 0 0,iv 0,iv 0,iv 0,iv 0,iv 0,iv 0,iv 0,iv 0,iv 0] 176
def G6 (l:List Cel) (from_:Int) (to_:Int):Int×Int×List Cel :=
 (from_,to_,l)
theorem C7f (l:List Cel) (from_:Int) (to_:Int) (lq:Option Addr) (lk:Nat) (hll:l.length≤9223372036854775807) (hcl:l.length≤lk) (R:Int×Int×List Cel) (hR:G6 l from_ to_=R):Con Tryz.prog 59 [.slice lq l.length lk,iv from_,iv to_] [] [sl L9 lq l] (Nat×Addr×Addr×{t:Option Addr×Nat // R.2.2.length≤t.2∧R.2.2.length≤9223372036854775807}) (fun x=>.func (.func 111) #[] #[pt x.1 0,pa x.2.1,pa x.2.2.1]) (fun x=>[bx x.1 [iv R.1] 3]) (fun x=>[at_ x.2.1 [iv R.2.1],at_ x.2.2.1 [.slice x.2.2.2.1.1 R.2.2.length x.2.2.2.1.2],sl L9 x.2.2.2.1.1 R.2.2]):=by
 refine zco Tryz.func59 [(0,.slice lq l.length lk),(1,iv from_),(2,iv to_)] fun X hX hr hD=>?_
 replace hR:=(G6.eq_1 ..).symm.trans hR
 refine sr 4 rfl (it rfl (A1d (cs:=[.slice lq l.length lk]) rfl rfl rfl) fun b1=>?_)
 refine A4r 0 rfl ?_
 refine M8 1 2 [] (fun b2=>[(4,pt b2 0)]) (fun b2=>[bx b2 [iv from_] 3]) (fun b2=>?_)
 refine it rfl (A1d (cs:=[iv to_]) rfl rfl rfl) fun b3=>?_
 refine A4r 0 rfl ?_
 refine ip' 1 0 [] (ie (sr 2 rfl (ip' 2 0 [(6,.func (.func 111) #[] #[pt b2 0,pa ⟨b3,0,none⟩,pa ⟨b1,0,none⟩])] ?_)))
 subst hR
 refine ie (B5 ?_)
 exact zer hr hD (Q9 rfl (C1 rfl)) (b2,⟨b3,0,none⟩,⟨b1,0,none⟩,(zq lq lk)) (mk [true] rfl) (A2.con1 (B0 0 rfl) (A2.con1 (B0 1 rfl) (A2.con1 (B0 2 rfl) fn0)))
end Go.Proofs.YtanighkpfmgnbaaGreatDoor
