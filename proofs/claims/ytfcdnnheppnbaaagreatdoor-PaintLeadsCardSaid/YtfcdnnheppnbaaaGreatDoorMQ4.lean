import Derived.Test.YtfcdnnheppnbaaaGreatDoorProg
import Derived.Test.YtfcdnnheppnbaaaGreatDoorMA2
import Derived.Test.YtfcdnnheppnbaaaGreatDoorMB1
import Derived.Test.YtfcdnnheppnbaaaGreatDoorMA3
import Derived.Test.YtfcdnnheppnbaaaGreatDoorMB2
import Derived.Test.YtfcdnnheppnbaaaGreatDoorMB3
import Derived.Test.YtfcdnnheppnbaaaGreatDoorMQ1
import Derived.Test.YtfcdnnheppnbaaaGreatDoorMQ2
import Derived.Test.YtfcdnnheppnbaaaGreatDoorMQ3
set_option linter.unusedVariables false
set_option linter.unusedSimpArgs false
set_option linter.unnecessarySimpa false
set_option maxRecDepth 100000
namespace Go.Proofs.YtfcdnnheppnbaaaGreatDoor
open Go Go.Fen
def B8d:Bool :=
 true
theorem C3z {R:Bool} (hR:B8d=R):J5 Tryz.prog 23 [iv 34] [] (bv R):=by
 refine bZ Tryz.func23 fun X hX hr hD=>?_
 replace hR:=(B8d.eq_1 ..).symm.trans hR
 refine bN rfl (pp0 1 rfl ?_)
 refine ie (bN rfl (bO 7 2 rfl ?_))
 subst hR
 refine ie (A8 ?_)
 exact G0 hr hD
def B4x (an:Int) (am:Int) (acolor:Col) (atext:List UInt8):Bool :=
 true
theorem C1a {an am:Int} {acolor:Col} {atext:List UInt8} {R:Bool} (hR:B4x an am acolor atext=R):J5 Tryz.prog 24 [ag (A1 (⟨34,an,am,acolor,atext⟩:Act))] [] (bv R):=by
 refine bZ Tryz.func24 fun X hX hr hD=>?_
 replace hR:=(B4x.eq_1 ..).symm.trans hR
 refine bN rfl (zra 2 [] (fun a=>[(1,pt a 0)]) (fun _=>(A1 (⟨34,an,am,acolor,atext⟩:Act))) 60 fun a=>?_)
 refine ie (A5 (bN rfl (cE 2 [0] 5 rfl ?_)))
 refine ie (B2 (bN rfl (bO 2 6 rfl ?_)))
 refine ie (Z1 rfl (bN rfl (bO 2 11 rfl ?_)))
 refine ie (Z1 rfl (A4 (nx (bN rfl (it rfl (A0w rfl) fun b=>?_)))))
 refine B8t (m:=2) (mo:=26) (es':=aB) B5i rfl 0 19 1 0 [] _ rfl oki ?_
 refine B1j (L':=[(b,aA),bx a (A1 (⟨34,an,am,acolor,atext⟩:Act)) 60]) rfl ?_
 refine bO 2 3 rfl ?_
 refine ie (bN rfl (cJ 2 28 29 rfl ?_))
 refine ix rfl (A2 (v:=iv 34) cA rfl rfl 1 rfl rfl) ?_
 refine ix rfl (B8p (v:=bv true) (j:=1) B5i rfl rfl rfl 0 rfl oki) ?_
 refine bO 1 2 rfl ?_
 subst hR
 refine ie (A8 ?_)
 exact G0 hr hD
def B8q (al:List (Rwc Cel)) (t:List Bool):Nat→ScrC→List (Rwc Cel)→Prop
 | 0,_,_=>True
 | k+1,s,m=>C1j s m s.last∧B8q al t k (I3 s m al t s.last).1 (I3 s m al t s.last).2
theorem D5g {al m:List (Rwc Cel)} {t:List Bool} {k:Nat} {s:ScrC} (h:B8q al t k s m) (a:0<k):C1j s m s.last∧B8q al t (k - 1) (I3 s m al t s.last).1 (I3 s m al t s.last).2:=by
 obtain ⟨k,rfl⟩:∃ j,k=j+1:=⟨k - 1,by omega⟩
 exact h
theorem F1y {al m:List (Rwc Cel)} {t:List Bool} {n k:Nat} {s:ScrC} (h:B8q al t (n - k) s m) (a:k<n):B8q al t (n - (k+1)) (I3 s m al t s.last).1 (I3 s m al t s.last).2:=by
 have:=(D5g h opx).2
 rw [show n - k - 1=n - (k+1) by omega] at this;exact this
def O8 (s:ScrC) (aV:List (Rwc Cel)) (aY:List Bool) (a:Act):Nat→Nat→ScrC→List (Rwc Cel)→(ScrC×List (Rwc Cel))
 | 0,_,_,_=>(ScrC.zero,[])
 | fu1+1,c,s1,sMain1=>(bif (decide ((c:Int)<(if (IntKind.i64.wrap (s.rows * s.cols))<a.n then (IntKind.i64.wrap (s.rows * s.cols)) else a.n))) then (C2 (I3 s1 sMain1 aV aY s1.last) fun (b:ScrC×List (Rwc Cel))=>O8 s aV aY a fu1 (c+1) b.1 b.2) else (s1,sMain1))
def A0e (s:ScrC) (aQ:List (Rwc Cel)) (aV:List (Rwc Cel)) (aY:List Bool) (a:Act):ScrC×List (Rwc Cel) :=
 (bif (decide (s.last=0)) then (s,aQ) else O8 s aV aY a ((a.n - (0:Int)).toNat+1) 0 s aQ)
theorem B8l {s:ScrC} {aQ aV:List (Rwc Cel)} {aY:List Bool} {a:Act} {sb:Nat} {aO:Option Addr} {aN:List Rwq} {aP:Nat} {aT:Option Addr} {aS:List Rwq} {aU:Nat} {aW:Option Addr} {aX:Nat} {R:ScrC×List (Rwc Cel)} (hR:A0e s aQ aV aY a=R) (bD:F1 aN aQ:=by exact bP) (bH:aQ.length≤9223372036854775807:=by exact bP) (bI:aQ.length≤aP:=by exact bP) (bE:F1 aS aV:=by exact bP) (bJ:aV.length≤9223372036854775807:=by exact bP) (bK:aV.length≤aU:=by exact bP) (bL:aY.length≤9223372036854775807:=by exact bP) (bM:aY.length≤aX:=by exact bP) (a1:a.n≤1000000∧B8q aV aY a.n.toNat s aQ:=by exact bP):cI Tryz.prog 42 [pt sb 0,ag (A1 a)] [bx sb (aG s aO aQ aP aT aV aU aW aY aX) 83] [sl G2 aO aN,E7 C0 aN aQ,sl G2 aT aS,E7 C0 aS aV,sl R7 aW aY,P6,P7] ({t:Option Addr×List Rwq×Nat // F1 t.2.1 R.2∧R.2.length≤t.2.2∧R.2.length≤9223372036854775807}) (fun x=>.tuple #[]) (fun x=>[bx sb (aG R.1 x.1.1 R.2 x.1.2.2 aT aV aU aW aY aX) 83]) (fun x=>[sl G2 x.1.1 x.1.2.1,E7 C0 x.1.2.1 R.2]):=by
 refine bZ Tryz.func42 fun X hX hr hD=>?_
 replace hR:=(A0e.eq_1 ..).symm.trans hR
 have:=bD.1
 have:=bE.1
 refine bN rfl (zra 1 [] (fun r=>[(3,pt r 0)]) (fun _=>(A1 a)) 60 fun r=>?_)
 refine ie (A5 (bN rfl (cE 6 [1] 9 rfl ?_)))
 refine ie ?_
 refine zjd rfl hR ?_ ?_<;>clear hR<;>intro hR h2 a7
 ·subst hR
  refine A8 ?_
  exact cD hr hD (A0x rfl) ⟨(aO,aN,aP),⟨bD,okl,okl⟩⟩ bQ c9
 refine A4 (nx (sd 15 rfl oki rfl ?_))
 refine pg3 12 [0,1,1] 11 16 21 rfl ?_
 refine dd rfl (I6.pure rfl) ?_
 refine pd2 2 23 24 rfl ?_
 have:=F1b a.n (IntKind.i64.wrap (s.rows * s.cols))
 refine de (B2 (A4v (un fun (k:Nat)=>un fun (i:Nat)=>un fun (j:ScrC)=>un fun (d:List (Rwc Cel))=>un fun (h:Option Addr)=>un fun (c:List Rwq) (g:Nat)=>((a.n - (i:Int)).toNat<k∧O8 s aV aY a k i j d=R∧d.length≤g∧d.length≤9223372036854775807∧F1 c d∧B8q aV aY (a.n.toNat - i) j d,[(0,pt sb 0),(23,iv (if (IntKind.i64.wrap (s.rows * s.cols))<a.n then (IntKind.i64.wrap (s.rows * s.cols)) else a.n)),(24,iv (i:Int))],[bx r (A1 a) 60,bx sb (aG j h d g aT aV aU aW aY aX) 83],[sl G2 aO aN,E7 C0 aN aQ,sl G2 aT aS,E7 C0 aS aV,sl R7 aW aY,P6,P7,sl G2 h c,E7 C0 c d],k)) (((a.n - (0:Int)).toNat+1),0,s,aQ,aO,aN,aP) ⟨(Nat.lt_succ_self _),hR,okl,okl,bD,(by exact a1.2)⟩ bQ c9 ?_))
 rintro ⟨k,i,j,d,h,c,g⟩ ⟨a6,hR,o,l,e,q⟩
 have:=e.1
 obtain ⟨fu1,rfl⟩:∃ m,k=m+1:=⟨k - 1,by omega⟩
 replace hR:=(O8.eq_2 ..).symm.trans hR
 refine bN rfl (bO 1 25 rfl ?_)
 refine ie (A5 ?_)
 refine zjb rfl hR ?_ ?_<;>clear hR<;>intro hR h4
 ·have v:=bU h4
  refine A4 (nx (A5 (B2 (A0 7 rfl (pl2 6 [1] 26 31 rfl ?_)))))
  have hQ:=C9 hR;clear hR;obtain ⟨b,f,hR⟩:=hQ
  refine zc rfl (A7d (s:=j) (aQ:=d) (aV:=aV) (aY:=aY) (cp:=j.last) (sb:=sb) (aO:=h) (aN:=c) (aP:=g) (aT:=aT) (aS:=aS) (aU:=aU) (aW:=aW) (aX:=aX) f e bP bP bE bP bP bP bP (by first|assumption|exact B8r hpo hset|exact (D5g q opx).1)) fun ⟨⟨w,y,z⟩,u⟩=>?_
  obtain ⟨p,a5,a3⟩:=u
  have:=p.1
  refine A3 (nx (A0 2 rfl (ix rfl (B4 rfl rfl rfl rfl opx) ?_)))
  refine bO 1 24 rfl ?_
  refine A3 (Q3 (H2 [[bx sb (aG b.1 w b.2 z aT aV aU aW aY aX) 83],[bx r (A1 a) 60]] [1,0] 2 rfl ozw rfl [[bx r (A1 a) 60],[bx sb (aG b.1 w b.2 z aT aV aU aW aY aX) 83]] rfl opv) ?_)
  exact A0d (z1:=(fu1+1,i,j,d,h,c,g)) (fu1,i+1,b.1,b.2,w,y,z) ⟨opx,hR,okl,okl,p,(by rw [← f];exact F1y q opx)⟩ (Nat.lt_succ_self _) bQ c9
 have v:=bU h4
 subst hR
 refine G6 ?_
 exact zen hr hD (A0x rfl) ⟨(h,c,g),⟨e,okl,okl⟩⟩ bQ c9
def B8h:Bool :=
 false
theorem C5a {R:Bool} (hR:B8h=R):J5 Tryz.prog 23 [iv 39] [] (bv R):=by
 refine bZ Tryz.func23 fun X hX hr hD=>?_
 replace hR:=(B8h.eq_1 ..).symm.trans hR
 refine bN rfl (pp0 1 rfl ?_)
 refine ie (bN rfl (bO 7 2 rfl ?_))
 subst hR
 refine ie (A8 ?_)
 exact G0 hr hD
def B4c (an:Int) (am:Int) (acolor:Col) (atext:List UInt8):Bool :=
 true
theorem C0z {an am:Int} {acolor:Col} {atext:List UInt8} {R:Bool} (hR:B4c an am acolor atext=R):J5 Tryz.prog 24 [ag (A1 (⟨39,an,am,acolor,atext⟩:Act))] [] (bv R):=by
 refine bZ Tryz.func24 fun X hX hr hD=>?_
 replace hR:=(B4c.eq_1 ..).symm.trans hR
 refine bN rfl (zra 2 [] (fun a=>[(1,pt a 0)]) (fun _=>(A1 (⟨39,an,am,acolor,atext⟩:Act))) 60 fun a=>?_)
 refine ie (A5 (bN rfl (cE 2 [0] 5 rfl ?_)))
 refine ie (B2 (bN rfl (bO 2 6 rfl ?_)))
 refine ie (Z1 rfl (bN rfl (bO 2 11 rfl ?_)))
 refine ie (Z1 rfl (A4 (nx (bN rfl (it rfl (A0w rfl) fun b=>?_)))))
 refine B8t (m:=2) (mo:=26) (es':=aB) B5i rfl 0 19 1 0 [] _ rfl oki ?_
 refine B1j (L':=[(b,aA),bx a (A1 (⟨39,an,am,acolor,atext⟩:Act)) 60]) rfl ?_
 refine bO 2 3 rfl ?_
 refine ie (bN rfl (cJ 2 28 29 rfl ?_))
 refine ix rfl (A2 (v:=iv 39) cA rfl rfl 1 rfl rfl) ?_
 refine ix rfl (B8p (v:=bv true) (j:=3) B5i rfl rfl rfl 0 rfl oki) ?_
 refine bO 1 2 rfl ?_
 subst hR
 refine ie (A8 ?_)
 exact G0 hr hD
def A3o (s:Sty) (p1:Act):Sty :=
 Sty.zero
theorem C8w {s:Sty} {p1:Act} {sb:Nat} {R:Sty} (hR:A3o s p1=R):cI Tryz.prog 171 [pt sb 0,ag (A1 p1)] [bx sb (B3 s) 26] [] (Unit) (fun x=>.tuple #[]) (fun x=>[bx sb (B3 R) 26]) (fun x=>[]):=by
 refine bZ Tryz.func171 fun X hX hr hD=>?_
 replace hR:=(A3o.eq_1 ..).symm.trans hR
 refine bN rfl (zra 1 [] (fun a=>[]) (fun _=>(A1 p1)) 60 fun a=>?_)
 refine ie (A0 4 rfl (zru 4 [1] [] 1 (bx sb (B3 Sty.zero) 26) ?_))
 subst hR
 refine A3 ?_
 exact zen hr hD (A0x rfl) () bQ A9.nil
def A3l (s:Sty) (a:Act):Sty :=
 {s with attr:=(bW .or .i64 s.attr a.m)}
theorem D1a {s:Sty} {a:Act} {sb:Nat} {R:Sty} (hR:A3l s a=R):cI Tryz.prog 173 [pt sb 0,ag (A1 a)] [bx sb (B3 s) 26] [] (Unit) (fun x=>.tuple #[]) (fun x=>[bx sb (B3 R) 26]) (fun x=>[]):=by
 refine bZ Tryz.func173 fun X hX hr hD=>?_
 replace hR:=(A3l.eq_1 ..).symm.trans hR
 refine bN rfl (zra 1 [] (fun b=>[(3,pt b 0)]) (fun _=>(A1 a)) 60 fun b=>?_)
 refine ie (zSn [(10,[0]),(9,[1])] ?_)
 refine hq3 [0,1,2,4] 4 6 8 rfl ?_
 refine gl 3 [0,1] rfl (A2 (v:=iv s.attr) cA rfl rfl 1 rfl rfl) ?_
 refine gl 5 [0,1] rfl (A2 (v:=iv a.m) cA rfl rfl 0 rfl rfl) ?_
 refine hq2 [6,7,8] 10 12 rfl ?_
 refine go 9 [0] rfl (D8 (us:=[iv (bW .or .i64 s.attr a.m)]) (cs':=B3 ({s with attr:=(bW .or .i64 s.attr a.m)})) cA rfl rfl rfl 1 rfl rfl rfl rfl rfl rfl) fun _=>?_
 refine gdn ?_
 subst hR
 exact zen hr hD (A0x rfl) () bQ A9.nil
def A3q (s:Sty) (a:Act):Sty :=
 {s with attr:=(bW .andNot .i64 s.attr a.m)}
theorem C8p {s:Sty} {a:Act} {sb:Nat} {R:Sty} (hR:A3q s a=R):cI Tryz.prog 175 [pt sb 0,ag (A1 a)] [bx sb (B3 s) 26] [] (Unit) (fun x=>.tuple #[]) (fun x=>[bx sb (B3 R) 26]) (fun x=>[]):=by
 refine bZ Tryz.func175 fun X hX hr hD=>?_
 replace hR:=(A3q.eq_1 ..).symm.trans hR
 refine bN rfl (zra 1 [] (fun b=>[(3,pt b 0)]) (fun _=>(A1 a)) 60 fun b=>?_)
 refine ie (zSn [(10,[0]),(9,[1])] ?_)
 refine hq3 [0,1,2,4] 4 6 8 rfl ?_
 refine gl 3 [0,1] rfl (A2 (v:=iv s.attr) cA rfl rfl 1 rfl rfl) ?_
 refine gl 5 [0,1] rfl (A2 (v:=iv a.m) cA rfl rfl 0 rfl rfl) ?_
 refine hq2 [6,7,8] 10 12 rfl ?_
 refine go 9 [0] rfl (D8 (us:=[iv (bW .andNot .i64 s.attr a.m)]) (cs':=B3 ({s with attr:=(bW .andNot .i64 s.attr a.m)})) cA rfl rfl rfl 1 rfl rfl rfl rfl rfl rfl) fun _=>?_
 refine gdn ?_
 subst hR
 exact zen hr hD (A0x rfl) () bQ A9.nil
def A3r (s:Sty) (a:Act):Sty :=
 {s with under:=a.m}
theorem D0s {s:Sty} {a:Act} {sb:Nat} {R:Sty} (hR:A3r s a=R):cI Tryz.prog 177 [pt sb 0,ag (A1 a)] [bx sb (B3 s) 26] [] (Unit) (fun x=>.tuple #[]) (fun x=>[bx sb (B3 R) 26]) (fun x=>[]):=by
 refine bZ Tryz.func177 fun X hX hr hD=>?_
 replace hR:=(A3r.eq_1 ..).symm.trans hR
 refine bN rfl (zra 1 [] (fun b=>[(3,pt b 0)]) (fun _=>(A1 a)) 60 fun b=>?_)
 refine ie (A0 6 rfl (zrg 6 0 [0,1] [] [bx b (A1 a) 60,bx sb (B3 ({s with under:=a.m})) 26] ?_))
 subst hR
 refine A3 ?_
 exact zen hr hD (A0x rfl) () bQ A9.nil
def A2f (s:Sty):Unit :=
 ()
theorem D0w {s:Sty} {sb:Nat} {R:Unit} (hR:A2f s=R):cI Tryz.prog 178 [pt sb 0] [bx sb (B3 s) 26] [] (Unit) (fun x=>pt sb 2) (fun x=>[bx sb (B3 s) 26]) (fun x=>[]):=by
 refine bZ Tryz.func178 fun X hX hr hD=>?_
 replace hR:=(A2f.eq_1 ..).symm.trans hR
 refine bN rfl (pp0 1 rfl ?_)
 refine ie (bN rfl (bO 4 2 rfl ?_))
 subst hR
 refine ie (A8 ?_)
 exact cD hr hD (N4 rfl (B0 rfl)) () bQ A9.nil
def A1k (s:Sty) (a:Act):Sty :=
 {s with fore:=a.color}
theorem C5e {s:Sty} {a:Act} {sb p2b:Nat} {R:Sty} (hR:A1k s a=R):cI Tryz.prog 170 [pt sb 0,ag (A1 a),pt p2b 0] [bx sb (B3 s) 26,bx p2b [aE 178] 220] [] (Unit) (fun x=>.tuple #[]) (fun x=>[bx sb (B3 R) 26,bx p2b [aE 178] 220]) (fun x=>[]):=by
 refine bZ Tryz.func170 fun X hX hr hD=>?_
 replace hR:=(A1k.eq_1 ..).symm.trans hR
 refine bN rfl (zra 1 [] (fun b=>[(4,pt b 0)]) (fun _=>(A1 a)) 60 fun b=>?_)
 refine ie (sh' 7 [(7,[bx b (A1 a) 60]),(6,[bx sb (B3 s) 26]),(7,[bx p2b [aE 178] 220])] [] [bx b (A1 a) 60,bx sb (B3 s) 26,bx p2b [aE 178] 220] (bV 7 0) oki rfl oki oki oki bQ A9.refl ?_)
 refine zhp [1,3] 5 (bV 7 10) [(6,pt sb 0),(8,pt b 3)] ?_
 refine zhl 0 [bx b (A1 a) 60,bx sb (B3 s) 26,bx p2b [aE 178] 220] (bV 7 11) rfl (A2 (v:=aE 178) E6e rfl rfl 2 rfl rfl) ?_
 refine zhl 4 [bx b (A1 a) 60,bx sb (B3 s) 26,bx p2b [aE 178] 220] (bV 7 27) rfl (D6 (us:=P0 a.color) A8u rfl rfl 0 rfl rfl rfl) ?_
 refine zho 2 [bx b (A1 a) 60,bx sb (B3 s) 26,bx p2b [aE 178] 220] (bV 7 31) rfl (J7 (L2:=[bx b (A1 a) 60,bx p2b [aE 178] 220]) (D0w rfl) rfl rfl rfl rfl rfl A9.nil (H2 [[bx b (A1 a) 60],[bx sb (B3 s) 26],[bx p2b [aE 178] 220]] [1,0,2] 3 rfl ozw rfl [[bx sb (B3 s) 26],[bx b (A1 a) 60],[bx p2b [aE 178] 220]] rfl opl) (fun _=>[bx b (A1 a) 60,bx sb (B3 s) 26,bx p2b [aE 178] 220]) (fun _=>H2 [[bx sb (B3 s) 26],[bx b (A1 a) 60],[bx p2b [aE 178] 220]] [1,0,2] 3 rfl ozw opl [[bx b (A1 a) 60],[bx sb (B3 s) 26],[bx p2b [aE 178] 220]] rfl opl)) (fun _=>bQ) (fun _=>A9.nil) fun _=>?_
 refine zhp [5] 1 (bV 7 63) [(10,pt sb 2)] ?_
 refine zho 6 [bx b (A1 a) 60,bx p2b [aE 178] 220] (bV 7 127) rfl (D8 (us:=P0 a.color) (cs':=B3 ({s with fore:=a.color})) A8u rfl rfl rfl 1 rfl rfl rfl rfl rfl rfl) (fun _=>bQ) (fun _=>A9.nil) fun _=>?_
 refine A2a oki ?_
 subst hR
 exact zen hr hD (A0x rfl) () bQ A9.nil
def A2l (s:Sty):Unit :=
 ()
theorem C9y {s:Sty} {sb:Nat} {R:Unit} (hR:A2l s=R):cI Tryz.prog 179 [pt sb 0] [bx sb (B3 s) 26] [] (Unit) (fun x=>pt sb 4) (fun x=>[bx sb (B3 s) 26]) (fun x=>[]):=by
 refine bZ Tryz.func179 fun X hX hr hD=>?_
 replace hR:=(A2l.eq_1 ..).symm.trans hR
 refine bN rfl (pp0 1 rfl ?_)
 refine ie (bN rfl (bO 4 2 rfl ?_))
 subst hR
 refine ie (A8 ?_)
 exact cD hr hD (N4 rfl (B0 rfl)) () bQ A9.nil
def A0a (s:Sty) (a:Act):Sty :=
 {s with back:=a.color}
theorem C4l {s:Sty} {a:Act} {sb p2b:Nat} {R:Sty} (hR:A0a s a=R):cI Tryz.prog 170 [pt sb 0,ag (A1 a),pt p2b 0] [bx sb (B3 s) 26,bx p2b [aE 179] 220] [] (Unit) (fun x=>.tuple #[]) (fun x=>[bx sb (B3 R) 26,bx p2b [aE 179] 220]) (fun x=>[]):=by
 refine bZ Tryz.func170 fun X hX hr hD=>?_
 replace hR:=(A0a.eq_1 ..).symm.trans hR
 refine bN rfl (zra 1 [] (fun b=>[(4,pt b 0)]) (fun _=>(A1 a)) 60 fun b=>?_)
 refine ie (sh' 7 [(7,[bx b (A1 a) 60]),(6,[bx sb (B3 s) 26]),(7,[bx p2b [aE 179] 220])] [] [bx b (A1 a) 60,bx sb (B3 s) 26,bx p2b [aE 179] 220] (bV 7 0) oki rfl oki oki oki bQ A9.refl ?_)
 refine zhp [1,3] 5 (bV 7 10) [(6,pt sb 0),(8,pt b 3)] ?_
 refine zhl 0 [bx b (A1 a) 60,bx sb (B3 s) 26,bx p2b [aE 179] 220] (bV 7 11) rfl (A2 (v:=aE 179) E6e rfl rfl 2 rfl rfl) ?_
 refine zhl 4 [bx b (A1 a) 60,bx sb (B3 s) 26,bx p2b [aE 179] 220] (bV 7 27) rfl (D6 (us:=P0 a.color) A8u rfl rfl 0 rfl rfl rfl) ?_
 refine zho 2 [bx b (A1 a) 60,bx sb (B3 s) 26,bx p2b [aE 179] 220] (bV 7 31) rfl (J7 (L2:=[bx b (A1 a) 60,bx p2b [aE 179] 220]) (C9y rfl) rfl rfl rfl rfl rfl A9.nil (H2 [[bx b (A1 a) 60],[bx sb (B3 s) 26],[bx p2b [aE 179] 220]] [1,0,2] 3 rfl ozw rfl [[bx sb (B3 s) 26],[bx b (A1 a) 60],[bx p2b [aE 179] 220]] rfl opl) (fun _=>[bx b (A1 a) 60,bx sb (B3 s) 26,bx p2b [aE 179] 220]) (fun _=>H2 [[bx sb (B3 s) 26],[bx b (A1 a) 60],[bx p2b [aE 179] 220]] [1,0,2] 3 rfl ozw opl [[bx b (A1 a) 60],[bx sb (B3 s) 26],[bx p2b [aE 179] 220]] rfl opl)) (fun _=>bQ) (fun _=>A9.nil) fun _=>?_
 refine zhp [5] 1 (bV 7 63) [(10,pt sb 4)] ?_
 refine zho 6 [bx b (A1 a) 60,bx p2b [aE 179] 220] (bV 7 127) rfl (D8 (us:=P0 a.color) (cs':=B3 ({s with back:=a.color})) A8u rfl rfl rfl 1 rfl rfl rfl rfl rfl rfl) (fun _=>bQ) (fun _=>A9.nil) fun _=>?_
 refine A2a oki ?_
 subst hR
 exact zen hr hD (A0x rfl) () bQ A9.nil
def A0s (s:Sty):Unit :=
 ()
theorem C8b {s:Sty} {sb:Nat} {R:Unit} (hR:A0s s=R):cI Tryz.prog 180 [pt sb 0] [bx sb (B3 s) 26] [] (Unit) (fun x=>pt sb 6) (fun x=>[bx sb (B3 s) 26]) (fun x=>[]):=by
 refine bZ Tryz.func180 fun X hX hr hD=>?_
 replace hR:=(A0s.eq_1 ..).symm.trans hR
 refine bN rfl (pp0 1 rfl ?_)
 refine ie (bN rfl (bO 4 2 rfl ?_))
 subst hR
 refine ie (A8 ?_)
 exact cD hr hD (N4 rfl (B0 rfl)) () bQ A9.nil
def A0b (s:Sty) (a:Act):Sty :=
 {s with line:=a.color}
theorem C4v {s:Sty} {a:Act} {sb p2b:Nat} {R:Sty} (hR:A0b s a=R):cI Tryz.prog 170 [pt sb 0,ag (A1 a),pt p2b 0] [bx sb (B3 s) 26,bx p2b [aE 180] 220] [] (Unit) (fun x=>.tuple #[]) (fun x=>[bx sb (B3 R) 26,bx p2b [aE 180] 220]) (fun x=>[]):=by
 refine bZ Tryz.func170 fun X hX hr hD=>?_
 replace hR:=(A0b.eq_1 ..).symm.trans hR
 refine bN rfl (zra 1 [] (fun b=>[(4,pt b 0)]) (fun _=>(A1 a)) 60 fun b=>?_)
 refine ie (sh' 7 [(7,[bx b (A1 a) 60]),(6,[bx sb (B3 s) 26]),(7,[bx p2b [aE 180] 220])] [] [bx b (A1 a) 60,bx sb (B3 s) 26,bx p2b [aE 180] 220] (bV 7 0) oki rfl oki oki oki bQ A9.refl ?_)
 refine zhp [1,3] 5 (bV 7 10) [(6,pt sb 0),(8,pt b 3)] ?_
 refine zhl 0 [bx b (A1 a) 60,bx sb (B3 s) 26,bx p2b [aE 180] 220] (bV 7 11) rfl (A2 (v:=aE 180) E6e rfl rfl 2 rfl rfl) ?_
 refine zhl 4 [bx b (A1 a) 60,bx sb (B3 s) 26,bx p2b [aE 180] 220] (bV 7 27) rfl (D6 (us:=P0 a.color) A8u rfl rfl 0 rfl rfl rfl) ?_
 refine zho 2 [bx b (A1 a) 60,bx sb (B3 s) 26,bx p2b [aE 180] 220] (bV 7 31) rfl (J7 (L2:=[bx b (A1 a) 60,bx p2b [aE 180] 220]) (C8b rfl) rfl rfl rfl rfl rfl A9.nil (H2 [[bx b (A1 a) 60],[bx sb (B3 s) 26],[bx p2b [aE 180] 220]] [1,0,2] 3 rfl ozw rfl [[bx sb (B3 s) 26],[bx b (A1 a) 60],[bx p2b [aE 180] 220]] rfl opl) (fun _=>[bx b (A1 a) 60,bx sb (B3 s) 26,bx p2b [aE 180] 220]) (fun _=>H2 [[bx sb (B3 s) 26],[bx b (A1 a) 60],[bx p2b [aE 180] 220]] [1,0,2] 3 rfl ozw opl [[bx b (A1 a) 60],[bx sb (B3 s) 26],[bx p2b [aE 180] 220]] rfl opl)) (fun _=>bQ) (fun _=>A9.nil) fun _=>?_
 refine zhp [5] 1 (bV 7 63) [(10,pt sb 6)] ?_
 refine zho 6 [bx b (A1 a) 60,bx p2b [aE 180] 220] (bV 7 127) rfl (D8 (us:=P0 a.color) (cs':=B3 ({s with line:=a.color})) A8u rfl rfl rfl 1 rfl rfl rfl rfl rfl rfl) (fun _=>bQ) (fun _=>A9.nil) fun _=>?_
 refine A2a oki ?_
 subst hR
 exact zen hr hD (A0x rfl) () bQ A9.nil
theorem D5q {a:Act} (h:J6 a=0):0≤a.n∧a.n≤6:=by
 unfold J6 at h
 generalize hk:S9 a.n W4=c at h
 cases c with
 | false=>simp at h
 | true=>simp [S9,W4] at hk;omega
def V3:List Act→Nat→Sty→(Sty×Int)
 | [],t20,s1=>(s1,0)
 | hd_l0::tl_l0,t20,s1=>(bif (!decide ((J6 hd_l0)=0)) then (Sty.zero,(J6 hd_l0)) else (bif (decide (hd_l0.n=0)) then V3 tl_l0 (t20+1) (A3o s1 hd_l0) else (bif (decide (hd_l0.n=1)) then V3 tl_l0 (t20+1) (A3l s1 hd_l0) else (bif (decide (hd_l0.n=2)) then V3 tl_l0 (t20+1) (A3q s1 hd_l0) else (bif (decide (hd_l0.n=3)) then V3 tl_l0 (t20+1) (A3r s1 hd_l0) else (bif (decide (hd_l0.n=4)) then V3 tl_l0 (t20+1) (A1k s1 hd_l0) else (bif (decide (hd_l0.n=5)) then V3 tl_l0 (t20+1) (A0a s1 hd_l0) else V3 tl_l0 (t20+1) (A0b s1 hd_l0))))))))
def C0g (s:Sty) (l:List Act):Sty×Int :=
 (bif (!decide ((D5 s)=0)) then (Sty.zero,(D5 s)) else V3 l 0 s)
theorem D6z {s:Sty} {l:List Act} {lq:Option Addr} {lk:Nat} {R:Sty×Int} (hR:C0g s l=R) (r:l.length≤9223372036854775807:=by exact bP) (w:l.length≤lk:=by exact bP):J5 Tryz.prog 222 [ag (B3 s),.slice lq l.length lk] [sl A1 lq l] (.tuple #[ag (B3 R.1),iv R.2]):=by
 refine bZ Tryz.func222 fun X hX hr hD=>?_
 replace hR:=(C0g.eq_1 ..).symm.trans hR
 refine bN rfl (A8c 3 [] (fun i h=>[(2,pt i 0),(4,pt h 0)]) (fun _ _=>(B3 s)) (fun _ _=>(B3 Sty.zero)) 26 26 fun i h=>?_)
 refine ie (A5 (bN rfl (bY 1 2 [1] [(11,ag (B3 s))] ?_)))
 refine zv rfl (V1 rfl) ?_
 refine bO 1 6 rfl ?_
 refine ie (bN rfl (bO 2 14 rfl ?_))
 refine ie ?_
 refine zjn rfl hR ?_ ?_<;>clear hR<;>intro hR h3 a0
 ·refine bN rfl (zru 4 [0] [(5,iv (D5 s))] 0 (bx h (B3 Sty.zero) 26) ?_)
  subst hR
  refine ie (A8 ?_)
  exact cD hr hD (Q9 rfl (D4 (us:=B3 Sty.zero) A6y rfl 0 rfl rfl rfl) (B0 rfl)) () bQ A9.nil
 refine A4 (nx (bN rfl (zc rfl (B7j rfl) fun ⟨j,d,e,b⟩=>?_)))
 refine bO 1 7 rfl ?_
 refine ie (A5 (bN rfl (pp3 3 18 19 20 rfl ?_)))
 refine ie (B2 (A4v (un fun (a:Nat) (f:Sty)=>(a≤l.length∧V3 (l.drop a) a f=R,[(2,pt i 0),(4,pt h 0),(7,.map (some j)),(18,.slice lq l.length lk),(19,iv (l.length:Int)),(20,iv (a:Int))],[(j,.map #[⟨iv 0,ag [aE 169,bv false,aE 171],0⟩,⟨iv 1,ag [aE 172,bv false,aE 173],1⟩,⟨iv 2,ag [aE 174,bv false,aE 175],2⟩,⟨iv 3,ag [aE 176,bv false,aE 177],3⟩,⟨iv 4,ag [aE 169,bv J1,.func (.func 170) #[] #[pt d 0]],4⟩,⟨iv 5,ag [aE 169,bv H7,.func (.func 170) #[] #[pt e 0]],5⟩,⟨iv 6,ag [aE 169,bv H8,.func (.func 170) #[] #[pt b 0]],6⟩] 7),bx d [aE 178] 220,bx e [aE 179] 220,bx b [aE 180] 220,bx h (B3 Sty.zero) 26,bx i (B3 f) 26],[sl A1 lq l],l.length - a)) (0,s) ⟨opx,hR⟩ bQ A9.refl ?_))
 rintro ⟨a,f⟩ ⟨v,hR⟩
 refine bN rfl (bO 1 21 rfl ?_)
 refine ie (A5 (X7 rfl (fun q=>?_) (fun q=>?_)))
 ·have p:=bU q
  rw [A1f Act.zero (show a<l.length by omega)] at hR;replace hR:=(V3.eq_2 ..).symm.trans hR
  refine A4 (nx (A5 (B2 (bN rfl (L9 0 rfl opx fun t k=>?_)))))
  refine ix rfl (H9 A2p rfl rfl k rfl a rfl opx) ?_
  refine ix rfl (K5 (us:=A1 (l.getD a Act.zero)) B7m rfl rfl (K2 (c:=A1) (sz:=6) k (fun _=>rfl) 0 rfl (gd Act.zero opx)) rfl) ?_
  refine zra 2 [0] (fun g=>[(9,pt g 0)]) (fun _=>(A1 (l.getD a Act.zero))) 60 fun g=>?_
  refine ie (A5 (bN rfl (bY 1 2 [0] [(24,ag (A1 (l.getD a Act.zero)))] ?_)))
  refine zv rfl (A9g rfl) ?_
  refine bO 1 10 rfl ?_
  refine ie (bN rfl (bO 2 27 rfl ?_))
  refine ie ?_
  refine zjn rfl hR ?_ ?_<;>clear hR<;>intro hR x o
  ·refine bN rfl (bY 2 2 [] [(28,ag (B3 Sty.zero)),(29,iv (J6 (l.getD a Act.zero)))] ?_)
   refine it rfl (D8 (us:=B3 Sty.zero) (cs':=B3 Sty.zero) A6y rfl rfl rfl 5 rfl rfl rfl rfl rfl rfl) fun _=>?_
   refine bO 1 5 rfl ?_
   subst hR
   refine ie (A8 ?_)
   exact cD hr hD (Q9 rfl (D4 (us:=B3 Sty.zero) A6y rfl 5 rfl rfl rfl) (B0 rfl)) () bQ A9.nil
  have y:=D5q (Decidable.of_not_not o)
  refine A4 (nx (A0 7 rfl (pl2 3 [0] 30 32 rfl ?_)))
  rcases Bool.eq_false_or_eq_true (decide ((l.getD a Act.zero).n=0)) with g14 | g14
  ·replace hR:=bt hR g14
   replace g14:=of_decide_eq_true g14
   refine ix rfl (by exact G9 (u:=ag [aE 169,bv false,aE 171]) (A3g (z:=ag [.nilFunc,bv false,.nilFunc]) (B6c d e b) A5t rfl rfl rfl 1 rfl oki oki) (by rw [g14];rfl)) ?_
   refine bY 2 1 [0] [(34,aE 171),(35,ag (A1 (l.getD a Act.zero)))] ?_
   refine zc rfl (C8w rfl) fun _=>?_
   refine A3 (nx (A0 2 rfl (ix rfl (B4 rfl rfl rfl rfl opx) ?_)))
   refine bO 1 20 rfl ?_
   refine A3 (Q3 (H2 [[bx i (B3 (A3o f (l.getD a Act.zero))) 26],[bx g (A1 (l.getD a Act.zero)) 60],[(j,.map #[⟨iv 0,ag [aE 169,bv false,aE 171],0⟩,⟨iv 1,ag [aE 172,bv false,aE 173],1⟩,⟨iv 2,ag [aE 174,bv false,aE 175],2⟩,⟨iv 3,ag [aE 176,bv false,aE 177],3⟩,⟨iv 4,ag [aE 169,bv J1,.func (.func 170) #[] #[pt d 0]],4⟩,⟨iv 5,ag [aE 169,bv H7,.func (.func 170) #[] #[pt e 0]],5⟩,⟨iv 6,ag [aE 169,bv H8,.func (.func 170) #[] #[pt b 0]],6⟩] 7)],[bx d [aE 178] 220],[bx e [aE 179] 220],[bx b [aE 180] 220],[bx h (B3 Sty.zero) 26]] [2,3,4,5,6,0,1] 7 rfl ozw rfl [[(j,.map #[⟨iv 0,ag [aE 169,bv false,aE 171],0⟩,⟨iv 1,ag [aE 172,bv false,aE 173],1⟩,⟨iv 2,ag [aE 174,bv false,aE 175],2⟩,⟨iv 3,ag [aE 176,bv false,aE 177],3⟩,⟨iv 4,ag [aE 169,bv J1,.func (.func 170) #[] #[pt d 0]],4⟩,⟨iv 5,ag [aE 169,bv H7,.func (.func 170) #[] #[pt e 0]],5⟩,⟨iv 6,ag [aE 169,bv H8,.func (.func 170) #[] #[pt b 0]],6⟩] 7)],[bx d [aE 178] 220],[bx e [aE 179] 220],[bx b [aE 180] 220],[bx h (B3 Sty.zero) 26],[bx i (B3 (A3o f (l.getD a Act.zero))) 26],[bx g (A1 (l.getD a Act.zero)) 60]] rfl opv) ?_)
   exact A0d (z1:=(a,f)) (a+1,A3o f (l.getD a Act.zero)) ⟨opx,hR⟩ olr bQ A9.refl
  ·replace hR:=bf hR g14
   replace g14:=of_decide_eq_false g14
   rcases Bool.eq_false_or_eq_true (decide ((l.getD a Act.zero).n=1)) with g15 | g15
   ·replace hR:=bt hR g15
    replace g15:=of_decide_eq_true g15
    refine ix rfl (by exact G9 (u:=ag [aE 172,bv false,aE 173]) (A3g (z:=ag [.nilFunc,bv false,.nilFunc]) (B6c d e b) A5t rfl rfl rfl 1 rfl oki oki) (by rw [g15];rfl)) ?_
    refine bY 2 1 [0] [(34,aE 173),(35,ag (A1 (l.getD a Act.zero)))] ?_
    refine zc rfl (D1a rfl) fun _=>?_
    refine A3 (nx (A0 2 rfl (ix rfl (B4 rfl rfl rfl rfl opx) ?_)))
    refine bO 1 20 rfl ?_
    refine A3 (Q3 (H2 [[bx i (B3 (A3l f (l.getD a Act.zero))) 26],[bx g (A1 (l.getD a Act.zero)) 60],[(j,.map #[⟨iv 0,ag [aE 169,bv false,aE 171],0⟩,⟨iv 1,ag [aE 172,bv false,aE 173],1⟩,⟨iv 2,ag [aE 174,bv false,aE 175],2⟩,⟨iv 3,ag [aE 176,bv false,aE 177],3⟩,⟨iv 4,ag [aE 169,bv J1,.func (.func 170) #[] #[pt d 0]],4⟩,⟨iv 5,ag [aE 169,bv H7,.func (.func 170) #[] #[pt e 0]],5⟩,⟨iv 6,ag [aE 169,bv H8,.func (.func 170) #[] #[pt b 0]],6⟩] 7)],[bx d [aE 178] 220],[bx e [aE 179] 220],[bx b [aE 180] 220],[bx h (B3 Sty.zero) 26]] [2,3,4,5,6,0,1] 7 rfl ozw rfl [[(j,.map #[⟨iv 0,ag [aE 169,bv false,aE 171],0⟩,⟨iv 1,ag [aE 172,bv false,aE 173],1⟩,⟨iv 2,ag [aE 174,bv false,aE 175],2⟩,⟨iv 3,ag [aE 176,bv false,aE 177],3⟩,⟨iv 4,ag [aE 169,bv J1,.func (.func 170) #[] #[pt d 0]],4⟩,⟨iv 5,ag [aE 169,bv H7,.func (.func 170) #[] #[pt e 0]],5⟩,⟨iv 6,ag [aE 169,bv H8,.func (.func 170) #[] #[pt b 0]],6⟩] 7)],[bx d [aE 178] 220],[bx e [aE 179] 220],[bx b [aE 180] 220],[bx h (B3 Sty.zero) 26],[bx i (B3 (A3l f (l.getD a Act.zero))) 26],[bx g (A1 (l.getD a Act.zero)) 60]] rfl opv) ?_)
    exact A0d (z1:=(a,f)) (a+1,A3l f (l.getD a Act.zero)) ⟨opx,hR⟩ olr bQ A9.refl
   ·replace hR:=bf hR g15
    replace g15:=of_decide_eq_false g15
    rcases Bool.eq_false_or_eq_true (decide ((l.getD a Act.zero).n=2)) with g16 | g16
    ·replace hR:=bt hR g16
     replace g16:=of_decide_eq_true g16
     refine ix rfl (by exact G9 (u:=ag [aE 174,bv false,aE 175]) (A3g (z:=ag [.nilFunc,bv false,.nilFunc]) (B6c d e b) A5t rfl rfl rfl 1 rfl oki oki) (by rw [g16];rfl)) ?_
     refine bY 2 1 [0] [(34,aE 175),(35,ag (A1 (l.getD a Act.zero)))] ?_
     refine zc rfl (C8p rfl) fun _=>?_
     refine A3 (nx (A0 2 rfl (ix rfl (B4 rfl rfl rfl rfl opx) ?_)))
     refine bO 1 20 rfl ?_
     refine A3 (Q3 (H2 [[bx i (B3 (A3q f (l.getD a Act.zero))) 26],[bx g (A1 (l.getD a Act.zero)) 60],[(j,.map #[⟨iv 0,ag [aE 169,bv false,aE 171],0⟩,⟨iv 1,ag [aE 172,bv false,aE 173],1⟩,⟨iv 2,ag [aE 174,bv false,aE 175],2⟩,⟨iv 3,ag [aE 176,bv false,aE 177],3⟩,⟨iv 4,ag [aE 169,bv J1,.func (.func 170) #[] #[pt d 0]],4⟩,⟨iv 5,ag [aE 169,bv H7,.func (.func 170) #[] #[pt e 0]],5⟩,⟨iv 6,ag [aE 169,bv H8,.func (.func 170) #[] #[pt b 0]],6⟩] 7)],[bx d [aE 178] 220],[bx e [aE 179] 220],[bx b [aE 180] 220],[bx h (B3 Sty.zero) 26]] [2,3,4,5,6,0,1] 7 rfl ozw rfl [[(j,.map #[⟨iv 0,ag [aE 169,bv false,aE 171],0⟩,⟨iv 1,ag [aE 172,bv false,aE 173],1⟩,⟨iv 2,ag [aE 174,bv false,aE 175],2⟩,⟨iv 3,ag [aE 176,bv false,aE 177],3⟩,⟨iv 4,ag [aE 169,bv J1,.func (.func 170) #[] #[pt d 0]],4⟩,⟨iv 5,ag [aE 169,bv H7,.func (.func 170) #[] #[pt e 0]],5⟩,⟨iv 6,ag [aE 169,bv H8,.func (.func 170) #[] #[pt b 0]],6⟩] 7)],[bx d [aE 178] 220],[bx e [aE 179] 220],[bx b [aE 180] 220],[bx h (B3 Sty.zero) 26],[bx i (B3 (A3q f (l.getD a Act.zero))) 26],[bx g (A1 (l.getD a Act.zero)) 60]] rfl opv) ?_)
     exact A0d (z1:=(a,f)) (a+1,A3q f (l.getD a Act.zero)) ⟨opx,hR⟩ olr bQ A9.refl
    ·replace hR:=bf hR g16
     replace g16:=of_decide_eq_false g16
     rcases Bool.eq_false_or_eq_true (decide ((l.getD a Act.zero).n=3)) with g17 | g17
     ·replace hR:=bt hR g17
      replace g17:=of_decide_eq_true g17
      refine ix rfl (by exact G9 (u:=ag [aE 176,bv false,aE 177]) (A3g (z:=ag [.nilFunc,bv false,.nilFunc]) (B6c d e b) A5t rfl rfl rfl 1 rfl oki oki) (by rw [g17];rfl)) ?_
      refine bY 2 1 [0] [(34,aE 177),(35,ag (A1 (l.getD a Act.zero)))] ?_
      refine zc rfl (D0s rfl) fun _=>?_
      refine A3 (nx (A0 2 rfl (ix rfl (B4 rfl rfl rfl rfl opx) ?_)))
      refine bO 1 20 rfl ?_
      refine A3 (Q3 (H2 [[bx i (B3 (A3r f (l.getD a Act.zero))) 26],[bx g (A1 (l.getD a Act.zero)) 60],[(j,.map #[⟨iv 0,ag [aE 169,bv false,aE 171],0⟩,⟨iv 1,ag [aE 172,bv false,aE 173],1⟩,⟨iv 2,ag [aE 174,bv false,aE 175],2⟩,⟨iv 3,ag [aE 176,bv false,aE 177],3⟩,⟨iv 4,ag [aE 169,bv J1,.func (.func 170) #[] #[pt d 0]],4⟩,⟨iv 5,ag [aE 169,bv H7,.func (.func 170) #[] #[pt e 0]],5⟩,⟨iv 6,ag [aE 169,bv H8,.func (.func 170) #[] #[pt b 0]],6⟩] 7)],[bx d [aE 178] 220],[bx e [aE 179] 220],[bx b [aE 180] 220],[bx h (B3 Sty.zero) 26]] [2,3,4,5,6,0,1] 7 rfl ozw rfl [[(j,.map #[⟨iv 0,ag [aE 169,bv false,aE 171],0⟩,⟨iv 1,ag [aE 172,bv false,aE 173],1⟩,⟨iv 2,ag [aE 174,bv false,aE 175],2⟩,⟨iv 3,ag [aE 176,bv false,aE 177],3⟩,⟨iv 4,ag [aE 169,bv J1,.func (.func 170) #[] #[pt d 0]],4⟩,⟨iv 5,ag [aE 169,bv H7,.func (.func 170) #[] #[pt e 0]],5⟩,⟨iv 6,ag [aE 169,bv H8,.func (.func 170) #[] #[pt b 0]],6⟩] 7)],[bx d [aE 178] 220],[bx e [aE 179] 220],[bx b [aE 180] 220],[bx h (B3 Sty.zero) 26],[bx i (B3 (A3r f (l.getD a Act.zero))) 26],[bx g (A1 (l.getD a Act.zero)) 60]] rfl opv) ?_)
      exact A0d (z1:=(a,f)) (a+1,A3r f (l.getD a Act.zero)) ⟨opx,hR⟩ olr bQ A9.refl
     ·replace hR:=bf hR g17
      replace g17:=of_decide_eq_false g17
      rcases Bool.eq_false_or_eq_true (decide ((l.getD a Act.zero).n=4)) with g18 | g18
      ·replace hR:=bt hR g18
       replace g18:=of_decide_eq_true g18
       refine ix rfl (by exact G9 (u:=ag [aE 169,bv J1,.func (.func 170) #[] #[pt d 0]]) (A3g (z:=ag [.nilFunc,bv false,.nilFunc]) (B6c d e b) A5t rfl rfl rfl 1 rfl oki oki) (by rw [g18];rfl)) ?_
       refine bY 2 1 [0] [(34,.func (.func 170) #[] #[pt d 0]),(35,ag (A1 (l.getD a Act.zero)))] ?_
       refine zc rfl (C5e rfl) fun _=>?_
       refine A3 (nx (A0 2 rfl (ix rfl (B4 rfl rfl rfl rfl opx) ?_)))
       refine bO 1 20 rfl ?_
       refine A3 (Q3 (H2 [[bx i (B3 (A1k f (l.getD a Act.zero))) 26],[bx d [aE 178] 220],[bx g (A1 (l.getD a Act.zero)) 60],[(j,.map #[⟨iv 0,ag [aE 169,bv false,aE 171],0⟩,⟨iv 1,ag [aE 172,bv false,aE 173],1⟩,⟨iv 2,ag [aE 174,bv false,aE 175],2⟩,⟨iv 3,ag [aE 176,bv false,aE 177],3⟩,⟨iv 4,ag [aE 169,bv J1,.func (.func 170) #[] #[pt d 0]],4⟩,⟨iv 5,ag [aE 169,bv H7,.func (.func 170) #[] #[pt e 0]],5⟩,⟨iv 6,ag [aE 169,bv H8,.func (.func 170) #[] #[pt b 0]],6⟩] 7)],[bx e [aE 179] 220],[bx b [aE 180] 220],[bx h (B3 Sty.zero) 26]] [3,1,4,5,6,0,2] 7 rfl ozw rfl [[(j,.map #[⟨iv 0,ag [aE 169,bv false,aE 171],0⟩,⟨iv 1,ag [aE 172,bv false,aE 173],1⟩,⟨iv 2,ag [aE 174,bv false,aE 175],2⟩,⟨iv 3,ag [aE 176,bv false,aE 177],3⟩,⟨iv 4,ag [aE 169,bv J1,.func (.func 170) #[] #[pt d 0]],4⟩,⟨iv 5,ag [aE 169,bv H7,.func (.func 170) #[] #[pt e 0]],5⟩,⟨iv 6,ag [aE 169,bv H8,.func (.func 170) #[] #[pt b 0]],6⟩] 7)],[bx d [aE 178] 220],[bx e [aE 179] 220],[bx b [aE 180] 220],[bx h (B3 Sty.zero) 26],[bx i (B3 (A1k f (l.getD a Act.zero))) 26],[bx g (A1 (l.getD a Act.zero)) 60]] rfl opv) ?_)
       exact A0d (z1:=(a,f)) (a+1,A1k f (l.getD a Act.zero)) ⟨opx,hR⟩ olr bQ A9.refl
      ·replace hR:=bf hR g18
       replace g18:=of_decide_eq_false g18
       rcases Bool.eq_false_or_eq_true (decide ((l.getD a Act.zero).n=5)) with g19 | g19
       ·replace hR:=bt hR g19
        replace g19:=of_decide_eq_true g19
        refine ix rfl (by exact G9 (u:=ag [aE 169,bv H7,.func (.func 170) #[] #[pt e 0]]) (A3g (z:=ag [.nilFunc,bv false,.nilFunc]) (B6c d e b) A5t rfl rfl rfl 1 rfl oki oki) (by rw [g19];rfl)) ?_
        refine bY 2 1 [0] [(34,.func (.func 170) #[] #[pt e 0]),(35,ag (A1 (l.getD a Act.zero)))] ?_
        refine zc rfl (C4l rfl) fun _=>?_
        refine A3 (nx (A0 2 rfl (ix rfl (B4 rfl rfl rfl rfl opx) ?_)))
        refine bO 1 20 rfl ?_
        refine A3 (Q3 (H2 [[bx i (B3 (A0a f (l.getD a Act.zero))) 26],[bx e [aE 179] 220],[bx g (A1 (l.getD a Act.zero)) 60],[(j,.map #[⟨iv 0,ag [aE 169,bv false,aE 171],0⟩,⟨iv 1,ag [aE 172,bv false,aE 173],1⟩,⟨iv 2,ag [aE 174,bv false,aE 175],2⟩,⟨iv 3,ag [aE 176,bv false,aE 177],3⟩,⟨iv 4,ag [aE 169,bv J1,.func (.func 170) #[] #[pt d 0]],4⟩,⟨iv 5,ag [aE 169,bv H7,.func (.func 170) #[] #[pt e 0]],5⟩,⟨iv 6,ag [aE 169,bv H8,.func (.func 170) #[] #[pt b 0]],6⟩] 7)],[bx d [aE 178] 220],[bx b [aE 180] 220],[bx h (B3 Sty.zero) 26]] [3,4,1,5,6,0,2] 7 rfl ozw rfl [[(j,.map #[⟨iv 0,ag [aE 169,bv false,aE 171],0⟩,⟨iv 1,ag [aE 172,bv false,aE 173],1⟩,⟨iv 2,ag [aE 174,bv false,aE 175],2⟩,⟨iv 3,ag [aE 176,bv false,aE 177],3⟩,⟨iv 4,ag [aE 169,bv J1,.func (.func 170) #[] #[pt d 0]],4⟩,⟨iv 5,ag [aE 169,bv H7,.func (.func 170) #[] #[pt e 0]],5⟩,⟨iv 6,ag [aE 169,bv H8,.func (.func 170) #[] #[pt b 0]],6⟩] 7)],[bx d [aE 178] 220],[bx e [aE 179] 220],[bx b [aE 180] 220],[bx h (B3 Sty.zero) 26],[bx i (B3 (A0a f (l.getD a Act.zero))) 26],[bx g (A1 (l.getD a Act.zero)) 60]] rfl opv) ?_)
        exact A0d (z1:=(a,f)) (a+1,A0a f (l.getD a Act.zero)) ⟨opx,hR⟩ olr bQ A9.refl
       ·replace hR:=bf hR g19
        replace g19:=of_decide_eq_false g19
        have m:(l.getD a Act.zero).n=6:=by omega
        refine ix rfl (by exact G9 (u:=ag [aE 169,bv H8,.func (.func 170) #[] #[pt b 0]]) (A3g (z:=ag [.nilFunc,bv false,.nilFunc]) (B6c d e b) A5t rfl rfl rfl 1 rfl oki oki) (by rw [m];rfl)) ?_
        refine bY 2 1 [0] [(34,.func (.func 170) #[] #[pt b 0]),(35,ag (A1 (l.getD a Act.zero)))] ?_
        refine zc rfl (C4v rfl) fun _=>?_
        refine A3 (nx (A0 2 rfl (ix rfl (B4 rfl rfl rfl rfl opx) ?_)))
        refine bO 1 20 rfl ?_
        refine A3 (Q3 (H2 [[bx i (B3 (A0b f (l.getD a Act.zero))) 26],[bx b [aE 180] 220],[bx g (A1 (l.getD a Act.zero)) 60],[(j,.map #[⟨iv 0,ag [aE 169,bv false,aE 171],0⟩,⟨iv 1,ag [aE 172,bv false,aE 173],1⟩,⟨iv 2,ag [aE 174,bv false,aE 175],2⟩,⟨iv 3,ag [aE 176,bv false,aE 177],3⟩,⟨iv 4,ag [aE 169,bv J1,.func (.func 170) #[] #[pt d 0]],4⟩,⟨iv 5,ag [aE 169,bv H7,.func (.func 170) #[] #[pt e 0]],5⟩,⟨iv 6,ag [aE 169,bv H8,.func (.func 170) #[] #[pt b 0]],6⟩] 7)],[bx d [aE 178] 220],[bx e [aE 179] 220],[bx h (B3 Sty.zero) 26]] [3,4,5,1,6,0,2] 7 rfl ozw rfl [[(j,.map #[⟨iv 0,ag [aE 169,bv false,aE 171],0⟩,⟨iv 1,ag [aE 172,bv false,aE 173],1⟩,⟨iv 2,ag [aE 174,bv false,aE 175],2⟩,⟨iv 3,ag [aE 176,bv false,aE 177],3⟩,⟨iv 4,ag [aE 169,bv J1,.func (.func 170) #[] #[pt d 0]],4⟩,⟨iv 5,ag [aE 169,bv H7,.func (.func 170) #[] #[pt e 0]],5⟩,⟨iv 6,ag [aE 169,bv H8,.func (.func 170) #[] #[pt b 0]],6⟩] 7)],[bx d [aE 178] 220],[bx e [aE 179] 220],[bx b [aE 180] 220],[bx h (B3 Sty.zero) 26],[bx i (B3 (A0b f (l.getD a Act.zero))) 26],[bx g (A1 (l.getD a Act.zero)) 60]] rfl opv) ?_)
        exact A0d (z1:=(a,f)) (a+1,A0b f (l.getD a Act.zero)) ⟨opx,hR⟩ olr bQ A9.refl
 have p:=bU q
 rw [A2g p] at hR;replace hR:=(V3.eq_1 ..).symm.trans hR
 refine G6 (nx (bN rfl (ix rfl (D6 (us:=B3 f) A6y rfl rfl 5 rfl rfl rfl) ?_)))
 refine it rfl (D8 (us:=B3 f) (cs':=B3 f) A6y rfl rfl rfl 4 rfl rfl rfl rfl rfl rfl) fun _=>?_
 refine bO 1 5 rfl ?_
 subst hR
 refine ie (A8 ?_)
 exact cD hr hD (Q9 rfl (D4 (us:=B3 f) A6y rfl 4 rfl rfl rfl) (B0 rfl)) () bQ A9.nil
def A7n (s:Sty) (a:Act):Sty×Int :=
 (C2 (C0g s ([a]:List Act)) fun (b:Sty×Int)=>(b.1,b.2))
theorem D1r {s:Sty} {a:Act} {R:Sty×Int} (hR:A7n s a=R):J5 Tryz.prog 131 [ag (B3 s),ag (A1 a)] [] (.tuple #[ag (B3 R.1),iv R.2]):=by
 refine bZ Tryz.func131 fun X hX hr hD=>?_
 replace hR:=(A7n.eq_1 ..).symm.trans hR
 refine bN rfl (D4x 4 0 [] (fun f g e=>[(2,pt f 0),(3,pt g 0),(4,pt e 0)]) (fun f g e=>[bx e (B3 Sty.zero) 26,bx g (A1 a) 60,bx f (B3 s) 26]) (fun f g e=>?_))
 refine ie (bN rfl (bY 2 6 [2,1] [(6,ag (B3 s)),(7,ag (A1 a))] ?_))
 refine it rfl (C1 (c:=A1) (xs:=([a]:List Act)) A2p rfl rfl rfl oki) fun h=>?_
 have:([a]:List Act).length=1:=rfl
 have i:=C9 hR;clear hR;obtain ⟨b,d,hR⟩:=i
 refine zv rfl (D6z (s:=s) (l:=([a]:List Act)) (lq:=(some ⟨h,0,none⟩)) (lk:=1) d) ?_
 refine zru 4 [0] [(5,iv b.2)] 0 (bx e (B3 b.1) 26) ?_
 subst hR
 refine ie (A8 ?_)
 exact cD hr hD (Q9 rfl (D4 (us:=B3 b.1) A6y rfl 0 rfl rfl rfl) (B0 rfl)) () bQ A9.nil
def W2 (s:ScrC) (aQ:List (Rwc Cel)) (aV:List (Rwc Cel)) (aY:List Bool) (a:Act):ScrC :=
 (C2 (A7n s.style a) fun (b:Sty×Int)=>{s with style:=b.1})
theorem C2c {s:ScrC} {aQ aV:List (Rwc Cel)} {aY:List Bool} {a:Act} {sb:Nat} {aO:Option Addr} {aN:List Rwq} {aP:Nat} {aT:Option Addr} {aS:List Rwq} {aU:Nat} {aW:Option Addr} {aX:Nat} {R:ScrC} (hR:W2 s aQ aV aY a=R) (g:F1 aN aQ:=by exact bP) (m:aQ.length≤9223372036854775807:=by exact bP) (h:aQ.length≤aP:=by exact bP) (e:F1 aS aV:=by exact bP) (k:aV.length≤9223372036854775807:=by exact bP) (l:aV.length≤aU:=by exact bP) (j:aY.length≤9223372036854775807:=by exact bP) (i:aY.length≤aX:=by exact bP):cI Tryz.prog 72 [pt sb 0,ag (A1 a)] [bx sb (aG s aO aQ aP aT aV aU aW aY aX) 83] [sl G2 aO aN,E7 C0 aN aQ,sl G2 aT aS,E7 C0 aS aV,sl R7 aW aY] (Unit) (fun x=>.tuple #[]) (fun x=>[bx sb (aG R aO aQ aP aT aV aU aW aY aX) 83]) (fun x=>[]):=by
 refine bZ Tryz.func72 fun X hX hr hD=>?_
 replace hR:=(W2.eq_1 ..).symm.trans hR
 have:=g.1
 have:=e.1
 refine bN rfl (zra 1 [] (fun d=>[(3,pt d 0)]) (fun _=>(A1 a)) 60 fun d=>?_)
 refine ie (zSn [(15,[0]),(14,[1])] ?_)
 refine hq2 [0,1,2,3,4] 5 9 rfl ?_
 refine gl 5 [0,1] rfl (D6 (us:=B3 s.style) A6y rfl rfl 1 rfl rfl rfl) ?_
 refine gl 6 [0,1] rfl (D6 (us:=A1 a) B7m rfl rfl 0 rfl rfl rfl) ?_
 have f:=C9 hR;clear hR;obtain ⟨b,c,hR⟩:=f
 refine gv 7 [0,1] rfl (D1r c) ?_
 refine hqV [8,9,10,11,12,13] [(13,ag (B3 b.1)),(17,pt sb 9)] ?_
 refine go 14 [0] rfl (D8 (us:=B3 b.1) (cs':=aG ({s with style:=b.1}) aO aQ aP aT aV aU aW aY aX) A6y rfl rfl rfl 1 rfl rfl rfl rfl rfl rfl) fun _=>?_
 refine gdn ?_
 subst hR
 exact zen hr hD (A0x rfl) () bQ A9.nil
def B8f:Bool :=
 false
theorem C3f {R:Bool} (hR:B8f=R):J5 Tryz.prog 23 [iv 30] [] (bv R):=by
 refine bZ Tryz.func23 fun X hX hr hD=>?_
 replace hR:=(B8f.eq_1 ..).symm.trans hR
 refine bN rfl (pp0 1 rfl ?_)
 refine ie (bN rfl (bO 7 2 rfl ?_))
 subst hR
 refine ie (A8 ?_)
 exact G0 hr hD
def B3w (an:Int) (am:Int) (acolor:Col) (atext:List UInt8):Bool :=
 false
theorem C0u {an am:Int} {acolor:Col} {atext:List UInt8} {R:Bool} (hR:B3w an am acolor atext=R):J5 Tryz.prog 24 [ag (A1 (⟨30,an,am,acolor,atext⟩:Act))] [] (bv R):=by
 refine bZ Tryz.func24 fun X hX hr hD=>?_
 replace hR:=(B3w.eq_1 ..).symm.trans hR
 refine bN rfl (zra 2 [] (fun a=>[(1,pt a 0)]) (fun _=>(A1 (⟨30,an,am,acolor,atext⟩:Act))) 60 fun a=>?_)
 refine ie (A5 (bN rfl (cE 2 [0] 5 rfl ?_)))
 refine ie (B2 (bN rfl (bO 2 6 rfl ?_)))
 refine ie (Z1 rfl (bN rfl (bO 2 11 rfl ?_)))
 refine ie (Z1 rfl (A4 (nx (bN rfl (it rfl (A0w rfl) fun b=>?_)))))
 refine B8t (m:=2) (mo:=26) (es':=aB) B5i rfl 0 19 1 0 [] _ rfl oki ?_
 refine B1j (L':=[(b,aA),bx a (A1 (⟨30,an,am,acolor,atext⟩:Act)) 60]) rfl ?_
 refine bO 2 3 rfl ?_
 refine ie (bN rfl (cJ 2 28 29 rfl ?_))
 refine ix rfl (A2 (v:=iv 30) cA rfl rfl 1 rfl rfl) ?_
 refine ix rfl (C3d (z:=bv false) B5i rfl rfl rfl 0 rfl oki oki) ?_
 refine bO 1 2 rfl ?_
 subst hR
 refine ie (A8 ?_)
 exact G0 hr hD
def A8q (s:ScrC) (aQ:List (Rwc Cel)) (aV:List (Rwc Cel)) (aY:List Bool):Sty :=
 {Sty.zero with back:=s.style.back}
theorem C1c {s:ScrC} {aQ aV:List (Rwc Cel)} {aY:List Bool} {sb:Nat} {aO:Option Addr} {aN:List Rwq} {aP:Nat} {aT:Option Addr} {aS:List Rwq} {aU:Nat} {aW:Option Addr} {aX:Nat} {R:Sty} (hR:A8q s aQ aV aY=R) (c:F1 aN aQ:=by exact bP) (h:aQ.length≤9223372036854775807:=by exact bP) (i:aQ.length≤aP:=by exact bP) (b:F1 aS aV:=by exact bP) (f:aV.length≤9223372036854775807:=by exact bP) (g:aV.length≤aU:=by exact bP) (e:aY.length≤9223372036854775807:=by exact bP) (d:aY.length≤aX:=by exact bP):cI Tryz.prog 121 [pt sb 0] [bx sb (aG s aO aQ aP aT aV aU aW aY aX) 83] [sl G2 aO aN,E7 C0 aN aQ,sl G2 aT aS,E7 C0 aS aV,sl R7 aW aY] (Unit) (fun x=>ag (B3 R)) (fun x=>[bx sb (aG s aO aQ aP aT aV aU aW aY aX) 83]) (fun x=>[]):=by
 refine bZ Tryz.func121 fun X hX hr hD=>?_
 replace hR:=(A8q.eq_1 ..).symm.trans hR
 have:=c.1
 have:=b.1
 refine bN rfl (zra 1 [] (fun a=>[(2,pt a 0)]) (fun _=>(B3 Sty.zero)) 26 fun a=>?_)
 refine ie (bN rfl (zrg 8 0 [1,0] [] [bx a (B3 ({Sty.zero with back:=s.style.back})) 26,bx sb (aG s aO aQ aP aT aV aU aW aY aX) 83] ?_))
 subst hR
 refine ie (A8 ?_)
 exact cD hr hD (N4 rfl (D4 (us:=B3 ({Sty.zero with back:=s.style.back})) A6y rfl 0 rfl rfl rfl)) () bQ A9.nil
def A7e (s:ScrC) (aQ:List (Rwc Cel)) (aV:List (Rwc Cel)) (aY:List Bool) (from_:Plc) (to_:Plc):List (Rwc Cel) :=
 (C2 (A9r aQ from_ to_ (A8q s aQ aV aY)) fun (a:List (Rwc Cel)×Int)=>a.1)
theorem ofc {p:Prop} (h:p:=by first|omega|(simp only [List.length_take,List.length_drop,List.length_append,List.length_cons,List.length_nil,List.length_set,List.length_map,A2f,A2l,A0s];omega)|decide):p:=h
theorem B9t {s:ScrC} {aQ aV:List (Rwc Cel)} {aY:List Bool} {from_ to_:Plc} {sb:Nat} {aO:Option Addr} {aN:List Rwq} {aP:Nat} {aT:Option Addr} {aS:List Rwq} {aU:Nat} {aW:Option Addr} {aX:Nat} {R:List (Rwc Cel)} (hR:A7e s aQ aV aY from_ to_=R) (l:F1 aN aQ:=by exact bP) (z:aQ.length≤9223372036854775807:=by exact bP) (bI:aQ.length≤aP:=by exact bP) (m:F1 aS aV:=by exact bP) (w:aV.length≤9223372036854775807:=by exact bP) (y:aV.length≤aU:=by exact bP) (u:aY.length≤9223372036854775807:=by exact bP) (p:aY.length≤aX:=by exact bP) (n:s.onAlt=false:=by exact bP):cI Tryz.prog 208 [pt sb 0,ag (I8 from_),ag (I8 to_)] [bx sb (aG s aO aQ aP aT aV aU aW aY aX) 83] [sl G2 aO aN,E7 C0 aN aQ,sl G2 aT aS,E7 C0 aS aV,sl R7 aW aY,P6,P7] ({t:Option Addr×List Rwq×Nat // F1 t.2.1 R∧R.length≤t.2.2∧R.length≤9223372036854775807}) (fun x=>.tuple #[]) (fun x=>[bx sb (aG s x.1.1 R x.1.2.2 aT aV aU aW aY aX) 83]) (fun x=>[sl G2 x.1.1 x.1.2.1,E7 C0 x.1.2.1 R]):=by
 refine bZ Tryz.func208 fun X hX hr hD=>?_
 replace hR:=(A7e.eq_1 ..).symm.trans hR
 have:=l.1
 have:=m.1
 refine bN rfl (A8c 2 [] (fun d b=>[(4,pt d 0),(5,pt b 0)]) (fun _ _=>(I8 from_)) (fun _ _=>(I8 to_)) 182 182 fun d b=>?_)
 refine ie (bN rfl (bO 1 7 rfl ?_))
 refine it rfl (J7 (L2:=[bx b (I8 to_) 182,bx d (I8 from_) 182]) (A6l (s:=s) (aQ:=aQ) (aV:=aV) (aY:=aY) (sb:=sb) (aO:=aO) (aN:=aN) (aP:=aP) (aT:=aT) (aS:=aS) (aU:=aU) (aW:=aW) (aX:=aX) rfl l bP bP m bP bP bP bP oya) rfl rfl rfl rfl rfl c9 (H2 [[bx b (I8 to_) 182],[bx d (I8 from_) 182],[bx sb (aG s aO aQ aP aT aV aU aW aY aX) 83]] [2,0,1] 3 rfl ozw rfl [[bx sb (aG s aO aQ aP aT aV aU aW aY aX) 83],[bx b (I8 to_) 182],[bx d (I8 from_) 182]] rfl opl) (fun _=>[bx b (I8 to_) 182,bx d (I8 from_) 182,bx sb (aG s aO aQ aP aT aV aU aW aY aX) 83]) (fun _=>H2 [[bx sb (aG s aO aQ aP aT aV aU aW aY aX) 83],[bx b (I8 to_) 182],[bx d (I8 from_) 182]] [1,2,0] 3 rfl ozw opl [[bx b (I8 to_) 182],[bx d (I8 from_) 182],[bx sb (aG s aO aQ aP aT aV aU aW aY aX) 83]] rfl opl)) fun _=>?_
 refine bO 1 6 rfl ?_
 refine ie (sh' 14 [(14,[bx b (I8 to_) 182]),(14,[bx d (I8 from_) 182]),(13,[bx sb (aG s aO aQ aP aT aV aU aW aY aX) 83])] [sl G2 aO aN,E7 C0 aN aQ,sl G2 aT aS,E7 C0 aS aV,sl R7 aW aY,P6,P7] [bx b (I8 to_) 182,bx d (I8 from_) 182,bx sb (aG s aO aQ aP aT aV aU aW aY aX) 83] (bV 14 0) oki rfl oki oki oki bQ A9.refl ?_)
 refine zhp [0,1,2,6] 10 (bV 14 71) [(10,pt sb 2),(12,pt sb 2),(16,pt sb 0)] ?_
 refine zhl 3 [bx b (I8 to_) 182,bx d (I8 from_) 182,bx sb (aG s aO aQ aP aT aV aU aW aY aX) 83] (bV 14 79) rfl (A2 (v:=.slice aO aQ.length aP) C7r rfl rfl 2 rfl rfl) ?_
 refine zhl 4 [bx b (I8 to_) 182,bx d (I8 from_) 182,bx sb (aG s aO aQ aP aT aV aU aW aY aX) 83] (bV 14 95) rfl (D6 (us:=I8 from_) E1n rfl rfl 1 rfl rfl rfl) ?_
 refine zhl 5 [bx b (I8 to_) 182,bx d (I8 from_) 182,bx sb (aG s aO aQ aP aT aV aU aW aY aX) 83] (bV 14 127) rfl (D6 (us:=I8 to_) E1n rfl rfl 0 rfl rfl rfl) ?_
 refine zho 7 [bx b (I8 to_) 182,bx d (I8 from_) 182,bx sb (aG s aO aQ aP aT aV aU aW aY aX) 83] (bV 14 255) rfl (J7 (L2:=[bx b (I8 to_) 182,bx d (I8 from_) 182]) (C1c rfl l bP bP m) rfl rfl rfl rfl rfl c9 (H2 [[bx b (I8 to_) 182],[bx d (I8 from_) 182],[bx sb (aG s aO aQ aP aT aV aU aW aY aX) 83]] [2,0,1] 3 rfl ozw rfl [[bx sb (aG s aO aQ aP aT aV aU aW aY aX) 83],[bx b (I8 to_) 182],[bx d (I8 from_) 182]] rfl opl) (fun _=>[bx b (I8 to_) 182,bx d (I8 from_) 182,bx sb (aG s aO aQ aP aT aV aU aW aY aX) 83]) (fun _=>H2 [[bx sb (aG s aO aQ aP aT aV aU aW aY aX) 83],[bx b (I8 to_) 182],[bx d (I8 from_) 182]] [1,2,0] 3 rfl ozw opl [[bx b (I8 to_) 182],[bx d (I8 from_) 182],[bx sb (aG s aO aQ aP aT aV aU aW aY aX) 83]] rfl opl)) (fun _=>bQ) (fun _=>A9.refl) fun _=>?_
 have o:=C9 hR;clear hR;obtain ⟨a,e,hR⟩:=o
 refine zho 8 [bx b (I8 to_) 182,bx d (I8 from_) 182,bx sb (aG s aO aQ aP aT aV aU aW aY aX) 83] (bV 14 511) rfl (J7 (L2:=[bx b (I8 to_) 182,bx d (I8 from_) 182,bx sb (aG s aO aQ aP aT aV aU aW aY aX) 83]) (D5a e l) rfl rfl rfl rfl rfl c9 (List.Perm.refl _) (fun ⟨⟨g,f⟩,h⟩=>(bx b (I8 to_) 182::bx d (I8 from_) 182::bx sb (aG s aO aQ aP aT aV aU aW aY aX) 83::((vo G2 34 g f)++([])))) (fun ⟨⟨g,f⟩,h⟩=>H2 [vo G2 34 g f,[bx b (I8 to_) 182],[bx d (I8 from_) 182],[bx sb (aG s aO aQ aP aT aV aU aW aY aX) 83]] [1,2,3,0] 4 rfl ozw opl [[bx b (I8 to_) 182],[bx d (I8 from_) 182],[bx sb (aG s aO aQ aP aT aV aU aW aY aX) 83],vo G2 34 g f] rfl opl)) (fun ⟨⟨g,f⟩,h⟩=>bQ) (fun ⟨⟨g,f⟩,h⟩=>c9) fun ⟨⟨g,f⟩,h⟩=>?_
 try dsimp only at h
 obtain ⟨i,j⟩:=h
 have:=bR.le i
 have:=bR.cap i
 have:=j.1
 refine zhp [9,10,11,12] 1 (bV 14 8191) [(19,.slice (va g.q) a.1.length g.k),(21,pt sb 2)] ?_
 refine zho 13 [bx b (I8 to_) 182,bx d (I8 from_) 182] (bV 14 16383) rfl (D8 (us:=[.slice (va g.q) a.1.length g.k]) (cs':=aG s (va g.q) a.1 g.k aT aV aU aW aY aX) C7r rfl rfl rfl 2 rfl rfl rfl rfl rfl rfl) (fun _=>bQ) (fun _=>c9) fun _=>?_
 refine A2a oki ?_
 refine B4n [bx b (I8 to_) 182,bx d (I8 from_) 182,bx sb (aG s (va g.q) a.1 g.k aT aV aU aW aY aX) 83] [] (T:=34) (c:=G2) (r:=g) (xs:=f) (bR.cast i (by rw [j.1])) omm ?_
 have:=bR.cap i
 subst hR
 exact zen hr hD (A0x rfl) ⟨(va g.q,f,g.k),⟨j,ofc,ofc⟩⟩ bQ c9
def X9 (s:ScrC) (aQ:List (Rwc Cel)) (aV:List (Rwc Cel)) (aY:List Bool) (b:Plc) (c:Plc):List (Rwc Cel) :=
 (C2 (A7e s aQ aV aY b c) fun (a:List (Rwc Cel))=>a)
def X8 (s:ScrC) (aQ:List (Rwc Cel)) (aV:List (Rwc Cel)) (aY:List Bool) (n:Int) (to_:Plc) (a:Plc):List (Rwc Cel) :=
 (bif (decide (n=1)) then X9 s aQ aV aY a (⟨s.cursor.row,(IntKind.i64.wrap (s.cursor.col+(1:Int)))⟩:Plc) else X9 s aQ aV aY a to_)
def A3x (s:ScrC) (aQ:List (Rwc Cel)) (aV:List (Rwc Cel)) (aY:List Bool) (n:Int) (from_:Plc) (to_:Plc):List (Rwc Cel) :=
 (bif (decide (n=0)) then X8 s aQ aV aY n to_ (⟨s.cursor.row,s.cursor.col⟩:Plc) else X8 s aQ aV aY n to_ from_)
theorem B5c {s:ScrC} {aQ aV:List (Rwc Cel)} {aY:List Bool} {n:Int} {from_ to_:Plc} {sb:Nat} {aO:Option Addr} {aN:List Rwq} {aP:Nat} {aT:Option Addr} {aS:List Rwq} {aU:Nat} {aW:Option Addr} {aX:Nat} {R:List (Rwc Cel)} (hR:A3x s aQ aV aY n from_ to_=R) (j:F1 aN aQ:=by exact bP) (bH:aQ.length≤9223372036854775807:=by exact bP) (bI:aQ.length≤aP:=by exact bP) (l:F1 aS aV:=by exact bP) (bJ:aV.length≤9223372036854775807:=by exact bP) (bK:aV.length≤aU:=by exact bP) (z:aY.length≤9223372036854775807:=by exact bP) (y:aY.length≤aX:=by exact bP) (k:s.onAlt=false:=by exact bP):cI Tryz.prog 117 [pt sb 0,iv n,ag (I8 from_),ag (I8 to_)] [bx sb (aG s aO aQ aP aT aV aU aW aY aX) 83] [sl G2 aO aN,E7 C0 aN aQ,sl G2 aT aS,E7 C0 aS aV,sl R7 aW aY,P6,P7] ({t:Option Addr×List Rwq×Nat // F1 t.2.1 R∧R.length≤t.2.2∧R.length≤9223372036854775807}) (fun x=>.tuple #[]) (fun x=>[bx sb (aG s x.1.1 R x.1.2.2 aT aV aU aW aY aX) 83]) (fun x=>[sl G2 x.1.1 x.1.2.1,E7 C0 x.1.2.1 R]):=by
 refine bZ Tryz.func117 fun X hX hr hD=>?_
 replace hR:=(A3x.eq_1 ..).symm.trans hR
 have:=j.1
 have:=l.1
 refine bN rfl (A8c 2 [] (fun f e=>[(6,pt f 0),(7,pt e 0)]) (fun _ _=>(I8 from_)) (fun _ _=>(I8 to_)) 182 182 fun f e=>?_)
 refine ie (A9c (fun (a:Plc)=>(X8 s aQ aV aY n to_ a=R,[(0,pt sb 0),(1,iv n),(6,pt f 0),(7,pt e 0)],[bx e (I8 to_) 182,bx f (I8 a) 182,bx sb (aG s aO aQ aP aT aV aU aW aY aX) 83],[sl G2 aO aN,E7 C0 aN aQ,sl G2 aT aS,E7 C0 aS aV,sl R7 aW aY,P6,P7])) ?_ ?_)
 ·refine bN rfl (bO 2 9 rfl ?_)
  refine ie ?_
  refine zjd rfl hR ?_ ?_<;>clear hR<;>intro hR h3 u
  ·refine zSn [(14,[0]),(13,[1]),(14,[2])] ?_
   refine hq2 [0,1,2,3,4,6,7,8,9,10] 14 20 rfl ?_
   refine gl 5 [0,1,2] rfl (A2 (v:=iv s.cursor.row) cA rfl rfl 2 rfl rfl) ?_
   refine gl 11 [0,1,2] rfl (A2 (v:=iv s.cursor.col) cA rfl rfl 2 rfl rfl) ?_
   refine gk 12 rfl (U8 (cs:=I8 (⟨s.cursor.row,s.cursor.col⟩:Plc)) rfl rfl oki) ?_
   refine go 13 [0,2] rfl (D8 (us:=I8 (⟨s.cursor.row,s.cursor.col⟩:Plc)) (cs':=I8 (⟨s.cursor.row,s.cursor.col⟩:Plc)) E1n rfl rfl rfl 1 rfl rfl rfl rfl rfl rfl) fun _=>?_
   refine gdn ?_
   exact X5 (⟨s.cursor.row,s.cursor.col⟩:Plc) hR bQ A9.refl
  refine A4 ?_
  exact X5 from_ hR bQ A9.refl
 intro a
 rintro hR
 replace hR:=(X8.eq_1 ..).symm.trans hR
 refine A9c (fun (d:Plc)=>(X9 s aQ aV aY a d=R,[(0,pt sb 0),(6,pt f 0),(7,pt e 0)],[bx e (I8 d) 182,bx f (I8 a) 182,bx sb (aG s aO aQ aP aT aV aU aW aY aX) 83],[sl G2 aO aN,E7 C0 aN aQ,sl G2 aT aS,E7 C0 aS aV,sl R7 aW aY,P6,P7])) ?_ ?_
 ·refine bN rfl (bO 2 24 rfl ?_)
  refine ie ?_
  refine zjd rfl hR ?_ ?_<;>clear hR<;>intro hR h4 o
  ·refine zSn [(14,[0]),(15,[1]),(15,[2])] ?_
   refine hq2 [0,1,2,3,4,6,7,8,9,10] 29 35 rfl ?_
   refine gl 5 [0,1,2] rfl (A2 (v:=iv s.cursor.row) cA rfl rfl 2 rfl rfl) ?_
   refine gl 11 [0,1,2] rfl (A2 (v:=iv s.cursor.col) cA rfl rfl 2 rfl rfl) ?_
   refine gk 12 rfl (I6.pure rfl) ?_
   refine gk 13 rfl (U8 (cs:=I8 (⟨s.cursor.row,(IntKind.i64.wrap (s.cursor.col+(1:Int)))⟩:Plc)) rfl rfl oki) ?_
   refine go 14 [1,2] rfl (D8 (us:=I8 (⟨s.cursor.row,(IntKind.i64.wrap (s.cursor.col+(1:Int)))⟩:Plc)) (cs':=I8 (⟨s.cursor.row,(IntKind.i64.wrap (s.cursor.col+(1:Int)))⟩:Plc)) E1n rfl rfl rfl 0 rfl rfl rfl rfl rfl rfl) fun _=>?_
   refine gdn ?_
   exact X5 (⟨s.cursor.row,(IntKind.i64.wrap (s.cursor.col+(1:Int)))⟩:Plc) hR bQ A9.refl
  refine A4 ?_
  exact X5 to_ hR bQ A9.refl
 intro d
 rintro hR
 replace hR:=(X9.eq_1 ..).symm.trans hR
 refine A0 4 rfl (bY 3 1 [1,0] [(39,pt sb 0),(40,ag (I8 a)),(41,ag (I8 d))] ?_)
 have w:=C9 hR;clear hR;obtain ⟨c,b,hR⟩:=w
 refine zc rfl (B9t b j bP bP l bP bP bP bP oya) fun ⟨⟨p,i,q⟩,h⟩=>?_
 obtain ⟨g,r,m⟩:=h
 have:=g.1
 subst hR
 refine A3 ?_
 exact zen hr hD (A0x rfl) ⟨(p,i,q),⟨g,ofc,ofc⟩⟩ bQ c9
def Y1 (s:ScrC) (aQ:List (Rwc Cel)) (aV:List (Rwc Cel)) (aY:List Bool) (a:Act):List (Rwc Cel) :=
 (C2 (A3x s aQ aV aY 0 Plc.zero (⟨s.cursor.row,(if (IntKind.i64.wrap (s.cursor.col+a.n))<s.cols then (IntKind.i64.wrap (s.cursor.col+a.n)) else s.cols)⟩:Plc)) fun (b:List (Rwc Cel))=>b)
theorem B8w {s:ScrC} {aQ aV:List (Rwc Cel)} {aY:List Bool} {a:Act} {sb:Nat} {aO:Option Addr} {aN:List Rwq} {aP:Nat} {aT:Option Addr} {aS:List Rwq} {aU:Nat} {aW:Option Addr} {aX:Nat} {R:List (Rwc Cel)} (hR:Y1 s aQ aV aY a=R) (j:F1 aN aQ:=by exact bP) (y:aQ.length≤9223372036854775807:=by exact bP) (z:aQ.length≤aP:=by exact bP) (l:F1 aS aV:=by exact bP) (u:aV.length≤9223372036854775807:=by exact bP) (w:aV.length≤aU:=by exact bP) (r:aY.length≤9223372036854775807:=by exact bP) (q:aY.length≤aX:=by exact bP) (k:s.onAlt=false:=by exact bP):cI Tryz.prog 59 [pt sb 0,ag (A1 a)] [bx sb (aG s aO aQ aP aT aV aU aW aY aX) 83] [sl G2 aO aN,E7 C0 aN aQ,sl G2 aT aS,E7 C0 aS aV,sl R7 aW aY,P6,P7] ({t:Option Addr×List Rwq×Nat // F1 t.2.1 R∧R.length≤t.2.2∧R.length≤9223372036854775807}) (fun x=>.tuple #[]) (fun x=>[bx sb (aG s x.1.1 R x.1.2.2 aT aV aU aW aY aX) 83]) (fun x=>[sl G2 x.1.1 x.1.2.1,E7 C0 x.1.2.1 R]):=by
 refine bZ Tryz.func59 fun X hX hr hD=>?_
 replace hR:=(Y1.eq_1 ..).symm.trans hR
 have:=j.1
 have:=l.1
 refine bN rfl (zra 1 [] (fun d=>[(3,pt d 0)]) (fun _=>(A1 a)) 60 fun d=>?_)
 refine ie (sh' 25 [(25,[bx d (A1 a) 60]),(24,[bx sb (aG s aO aQ aP aT aV aU aW aY aX) 83])] [sl G2 aO aN,E7 C0 aN aQ,sl G2 aT aS,E7 C0 aS aV,sl R7 aW aY,P6,P7] [bx d (A1 a) 60,bx sb (aG s aO aQ aP aT aV aU aW aY aX) 83] (bV 25 0) oki rfl oki oki oki bQ A9.refl ?_)
 refine zhp [0,2,3,4,5,6,8,9,10,11,13,14,15,16,17,19] 9 (bV 25 782205) [(4,pt sb 0),(10,pt sb 6),(15,pt sb 0),(21,pt sb 7),(23,pt d 1)] ?_
 refine E0v 1 [bx d (A1 a) 60,bx sb (aG s aO aQ aP aT aV aU aW aY aX) 83] (bV 25 782207) rfl (U8 (cs:=I8 Plc.zero) rfl rfl oki) ?_
 refine E0v 7 [bx d (A1 a) 60,bx sb (aG s aO aQ aP aT aV aU aW aY aX) 83] (bV 25 782335) rfl (A2 (v:=iv s.cursor.row) cA rfl rfl 1 rfl rfl) ?_
 refine E0v 12 [bx d (A1 a) 60,bx sb (aG s aO aQ aP aT aV aU aW aY aX) 83] (bV 25 786431) rfl (A2 (v:=iv s.cols) cA rfl rfl 1 rfl rfl) ?_
 refine E0v 18 [bx d (A1 a) 60,bx sb (aG s aO aQ aP aT aV aU aW aY aX) 83] (bV 25 1048575) rfl (A2 (v:=iv s.cursor.col) cA rfl rfl 1 rfl rfl) ?_
 refine E0v 20 [bx d (A1 a) 60,bx sb (aG s aO aQ aP aT aV aU aW aY aX) 83] (bV 25 2097151) rfl (A2 (v:=iv a.n) cA rfl rfl 0 rfl rfl) ?_
 refine E0v 21 [bx d (A1 a) 60,bx sb (aG s aO aQ aP aT aV aU aW aY aX) 83] (bV 25 4194303) rfl (I6.pure rfl) ?_
 refine zhp [22] 2 (bV 25 8388607) [(26,iv (if (IntKind.i64.wrap (s.cursor.col+a.n))<s.cols then (IntKind.i64.wrap (s.cursor.col+a.n)) else s.cols))] ?_
 refine E0v 23 [bx d (A1 a) 60,bx sb (aG s aO aQ aP aT aV aU aW aY aX) 83] (bV 25 16777215) rfl (U8 (cs:=I8 (⟨s.cursor.row,(if (IntKind.i64.wrap (s.cursor.col+a.n))<s.cols then (IntKind.i64.wrap (s.cursor.col+a.n)) else s.cols)⟩:Plc)) rfl rfl oki) ?_
 have o:=C9 hR;clear hR;obtain ⟨b,c,hR⟩:=o
 refine zho 24 [bx d (A1 a) 60] (bV 25 33554431) rfl (J7 (L2:=[bx d (A1 a) 60]) (B5c c j bP bP l bP bP bP bP oya) rfl rfl rfl rfl rfl A9.refl (H2 [[bx d (A1 a) 60],[bx sb (aG s aO aQ aP aT aV aU aW aY aX) 83]] [1,0] 2 rfl ozw rfl [[bx sb (aG s aO aQ aP aT aV aU aW aY aX) 83],[bx d (A1 a) 60]] rfl opl) (fun ⟨⟨h,e,g⟩,f⟩=>[bx d (A1 a) 60,bx sb (aG s h b g aT aV aU aW aY aX) 83]) (fun ⟨⟨h,e,g⟩,f⟩=>H2 [[bx sb (aG s h b g aT aV aU aW aY aX) 83],[bx d (A1 a) 60]] [1,0] 2 rfl ozw opl [[bx d (A1 a) 60],[bx sb (aG s h b g aT aV aU aW aY aX) 83]] rfl opl)) (fun ⟨⟨h,e,g⟩,f⟩=>bQ) (fun ⟨⟨h,e,g⟩,f⟩=>c9) fun ⟨⟨h,e,g⟩,f⟩=>?_
 obtain ⟨i,m,p⟩:=f
 have:=i.1
 refine A2a oki ?_
 subst hR
 exact zen hr hD (A0x rfl) ⟨(h,e,g),⟨i,ofc,ofc⟩⟩ bQ c9
def B7u:Bool :=
 false
theorem C3b {R:Bool} (hR:B7u=R):J5 Tryz.prog 23 [iv 20] [] (bv R):=by
 refine bZ Tryz.func23 fun X hX hr hD=>?_
 replace hR:=(B7u.eq_1 ..).symm.trans hR
 refine bN rfl (pp0 1 rfl ?_)
 refine ie (bN rfl (bO 7 2 rfl ?_))
 subst hR
 refine ie (A8 ?_)
 exact G0 hr hD
def B3x (an:Int) (am:Int) (acolor:Col) (atext:List UInt8):Bool :=
 false
theorem C0n {an am:Int} {acolor:Col} {atext:List UInt8} {R:Bool} (hR:B3x an am acolor atext=R):J5 Tryz.prog 24 [ag (A1 (⟨20,an,am,acolor,atext⟩:Act))] [] (bv R):=by
 refine bZ Tryz.func24 fun X hX hr hD=>?_
 replace hR:=(B3x.eq_1 ..).symm.trans hR
 refine bN rfl (zra 2 [] (fun a=>[(1,pt a 0)]) (fun _=>(A1 (⟨20,an,am,acolor,atext⟩:Act))) 60 fun a=>?_)
 refine ie (A5 (bN rfl (cE 2 [0] 5 rfl ?_)))
 refine ie (B2 (bN rfl (bO 2 6 rfl ?_)))
 refine ie (Z1 rfl (bN rfl (bO 2 11 rfl ?_)))
 refine ie (Z1 rfl (A4 (nx (bN rfl (it rfl (A0w rfl) fun b=>?_)))))
 refine B8t (m:=2) (mo:=26) (es':=aB) B5i rfl 0 19 1 0 [] _ rfl oki ?_
 refine B1j (L':=[(b,aA),bx a (A1 (⟨20,an,am,acolor,atext⟩:Act)) 60]) rfl ?_
 refine bO 2 3 rfl ?_
 refine ie (bN rfl (cJ 2 28 29 rfl ?_))
 refine ix rfl (A2 (v:=iv 20) cA rfl rfl 1 rfl rfl) ?_
 refine ix rfl (C3d (z:=bv false) B5i rfl rfl rfl 0 rfl oki oki) ?_
 refine bO 1 2 rfl ?_
 subst hR
 refine ie (A8 ?_)
 exact G0 hr hD
def A9t (c:Cur) (n:Int) (d:Int) (e:Int) (f:Int) (b:Int) (a:Bool):Cur :=
 {c with col:=(O5 d e f b a (IntKind.i64.wrap (c.col+n)))}
theorem C8c {c:Cur} {n e d f a:Int} {b:Bool} {cb p2b:Nat} {R:Cur} (hR:A9t c n e d f a b=R):cI Tryz.prog 196 [pt cb 0,iv n,pt p2b 0] [bx cb (V7 c) 40,bx p2b [iv e,iv d,iv f,iv a,bv b] 138] [] (Unit) (fun x=>.tuple #[]) (fun x=>[bx cb (V7 R) 40,bx p2b [iv e,iv d,iv f,iv a,bv b] 138]) (fun x=>[]):=by
 refine bZ Tryz.func196 fun X hX hr hD=>?_
 replace hR:=(A9t.eq_1 ..).symm.trans hR
 refine zSn [(11,[0]),(12,[1])] ?_
 refine hq3 [0,2,3,4,6] 5 9 11 rfl ?_
 refine gl 1 [0,1] rfl (D6 (us:=[iv e,iv d,iv f,iv a,bv b]) E5b rfl rfl 1 rfl rfl rfl) ?_
 refine gl 5 [0,1] rfl (A2 (v:=iv c.col) cA rfl rfl 0 rfl rfl) ?_
 refine gk 7 rfl (I6.pure rfl) ?_
 refine gv 8 [0,1] rfl (B3q rfl) ?_
 refine hq1 [9,10] 15 rfl ?_
 refine go 11 [1] rfl (D8 (us:=[iv (O5 e d f a b (IntKind.i64.wrap (c.col+n)))]) (cs':=V7 ({c with col:=(O5 e d f a b (IntKind.i64.wrap (c.col+n)))})) cA rfl rfl rfl 0 rfl rfl rfl rfl rfl rfl) fun _=>?_
 refine gdn ?_
 subst hR
 exact zen hr hD (A0x rfl) () bQ A9.nil
def Y9 (c:Cur) (p10f0:Int) (p10f1:Int) (p10f2:Int) (p10f3:Int) (p10f4:Bool) (p11f0:Int) (p11f1:Int) (p11f2:Int) (p11f3:Int) (p11f4:Bool) (p12cRows:Int) (p12cCols:Int) (p12cTop:Int) (p12cBottom:Int) (p12cOrigin:Bool) (p3:Int):Cur :=
 (A9t c p3 p12cRows p12cCols p12cTop p12cBottom p12cOrigin)
theorem C7u {c:Cur} {p10f0 p10f1 p10f2 p10f3:Int} {p10f4:Bool} {p11f0 p11f1 p11f2 p11f3:Int} {p11f4:Bool} {p12cRows p12cCols p12cTop p12cBottom:Int} {p12cOrigin:Bool} {p3:Int} {cb p1b p12cb p2b p3b:Nat} {R:Cur} (hR:Y9 c p10f0 p10f1 p10f2 p10f3 p10f4 p11f0 p11f1 p11f2 p11f3 p11f4 p12cRows p12cCols p12cTop p12cBottom p12cOrigin p3=R):cI Tryz.prog 199 [pt cb 0,pt p1b 0,pt p2b 0,pt p3b 0] [bx cb (V7 c) 40,bx p12cb [iv p12cRows,iv p12cCols,iv p12cTop,iv p12cBottom,bv p12cOrigin] 138,bx p1b [.func (.func 194) #[ag [iv p10f0,iv p10f1,iv p10f2,iv p10f3,bv p10f4]] #[],.func (.func 195) #[ag [iv p11f0,iv p11f1,iv p11f2,iv p11f3,bv p11f4]] #[],.func (.func 196) #[] #[pt p12cb 0],.func (.func 197) #[] #[pt p12cb 0]] 234,bx p2b [iv 2] 3,bx p3b [iv p3] 3] [] (Unit) (fun x=>.tuple #[]) (fun x=>[bx cb (V7 R) 40,bx p12cb [iv p12cRows,iv p12cCols,iv p12cTop,iv p12cBottom,bv p12cOrigin] 138,bx p1b [.func (.func 194) #[ag [iv p10f0,iv p10f1,iv p10f2,iv p10f3,bv p10f4]] #[],.func (.func 195) #[ag [iv p11f0,iv p11f1,iv p11f2,iv p11f3,bv p11f4]] #[],.func (.func 196) #[] #[pt p12cb 0],.func (.func 197) #[] #[pt p12cb 0]] 234,bx p2b [iv 2] 3,bx p3b [iv p3] 3]) (fun x=>[]):=by
 refine bZ Tryz.func199 fun X hX hr hD=>?_
 replace hR:=(Y9.eq_1 ..).symm.trans hR
 refine zSn [(5,[0]),(6,[1]),(6,[2]),(6,[3]),(6,[4])] ?_
 refine hq1 [3] 8 rfl ?_
 refine gl 0 [1,2,3,4] rfl (A2 (v:=iv 2) cA rfl rfl 2 rfl rfl) ?_
 refine gl 1 [1,2,3,4] rfl (A2o Tryz.underlying234 F0b rfl rfl rfl 2 rfl rfl) ?_
 refine gl 2 [0,1,2,3,4] rfl (A2 (v:=.func (.func 196) #[] #[pt p12cb 0]) F0b rfl rfl 2 rfl rfl) ?_
 refine gl 4 [0,1,2,3,4] rfl (A2 (v:=iv p3) cA rfl rfl 4 rfl rfl) ?_
 refine gc 5 [1,2,3,4] rfl (C8c rfl) fun _=>?_
 refine gdn ?_
 subst hR
 exact zen hr hD (A0x rfl) () bQ A9.nil
def B4a (fRows:Int) (fCols:Int) (fTop:Int) (fBottom:Int) (fOrigin:Bool) (c:Cur) (l:Int) (k:Int) (p:Int) (n:Int) (m:Bool) (i:Int) (j:Int) (g:Int) (o:Int) (h:Bool) (d:Int) (e:Int) (f:Int) (a:Int) (b:Bool) (q:Int):Cur×Int :=
 (bif (!decide ((K1 fRows fCols fTop fBottom fOrigin c)=0)) then (Cur.zero,(K1 fRows fCols fTop fBottom fOrigin c)) else ((Y9 ({c with wrap:=false}) l k p n m i j g o h d e f a b q),0))
theorem D2f (fRows:Int) (fCols:Int) (fTop:Int) (fBottom:Int) (fOrigin:Bool) (c:Cur) (o:Int) (n:Int) (m:Int) (p:Int) (l:Bool) (j:Int) (k:Int) (h:Int) (q:Int) (i:Bool) (e:Int) (f:Int) (g:Int) (b:Int) (d:Bool) (u:Int) (t:Nat) (a:Nat) (r:Nat) (s:Nat) (R:Cur×Int) (hR:B4a fRows fCols fTop fBottom fOrigin c o n m p l j k h q i e f g b d u=R):cI Tryz.prog 198 [ag [iv fRows,iv fCols,iv fTop,iv fBottom,bv fOrigin],ag (V7 c),.func (.func 199) #[] #[pt t 0,pt r 0,pt s 0]] [bx a [iv e,iv f,iv g,iv b,bv d] 138,bx t [.func (.func 194) #[ag [iv o,iv n,iv m,iv p,bv l]] #[],.func (.func 195) #[ag [iv j,iv k,iv h,iv q,bv i]] #[],.func (.func 196) #[] #[pt a 0],.func (.func 197) #[] #[pt a 0]] 234,bx r [iv 2] 3,bx s [iv u] 3] [] (Unit) (fun x=>.tuple #[ag (V7 R.1),iv R.2]) (fun x=>[bx a [iv e,iv f,iv g,iv b,bv d] 138,bx t [.func (.func 194) #[ag [iv o,iv n,iv m,iv p,bv l]] #[],.func (.func 195) #[ag [iv j,iv k,iv h,iv q,bv i]] #[],.func (.func 196) #[] #[pt a 0],.func (.func 197) #[] #[pt a 0]] 234,bx r [iv 2] 3,bx s [iv u] 3]) (fun x=>[]):=by
 refine zco Tryz.func198 [(0,ag [iv fRows,iv fCols,iv fTop,iv fBottom,bv fOrigin]),(1,ag (V7 c)),(2,.func (.func 199) #[] #[pt t 0,pt r 0,pt s 0])] fun X hX hr hD=>?_
 replace hR:=(B4a.eq_1 ..).symm.trans hR
 refine sr 4 rfl (D4x 4 0 [] (fun y v w=>[(3,pt y 0),(4,pt v 0),(6,pt w 0)]) (fun y v w=>[bx w (V7 Cur.zero) 40,bx v (V7 c) 40,bx y [iv fRows,iv fCols,iv fTop,iv fBottom,bv fOrigin] 138,bx a [iv e,iv f,iv g,iv b,bv d] 138,bx t [.func (.func 194) #[ag [iv o,iv n,iv m,iv p,bv l]] #[],.func (.func 195) #[ag [iv j,iv k,iv h,iv q,bv i]] #[],.func (.func 196) #[] #[pt a 0],.func (.func 197) #[] #[pt a 0]] 234,bx r [iv 2] 3,bx s [iv u] 3]) (fun y v w=>?_))
 refine ie (A5 (sr 4 rfl (bY 2 2 [2,1] [(9,ag [iv fRows,iv fCols,iv fTop,iv fBottom,bv fOrigin]),(10,ag (V7 c))] ?_)))
 refine zca (A5y (b:=fRows) (a:=fCols) (fTop:=fTop) (fBottom:=fBottom) (fOrigin:=fOrigin) (c:=c) rfl) A9.nil ?_
 refine ip' 1 0 [(8,iv (K1 fRows fCols fTop fBottom fOrigin c))] ?_
 refine ie (sr 2 rfl (ip' 2 0 [(13,bv (!decide ((K1 fRows fCols fTop fBottom fOrigin c)=0)))] ?_))
 refine ie ?_
 refine zjn rfl hR ?_ ?_<;>clear hR<;>intro hR h4 z
 ·refine sr 4 rfl (zrg 4 0 [0] [(7,iv (K1 fRows fCols fTop fBottom fOrigin c))] [bx w (V7 Cur.zero) 40,bx v (V7 c) 40,bx y [iv fRows,iv fCols,iv fTop,iv fBottom,bv fOrigin] 138,bx a [iv e,iv f,iv g,iv b,bv d] 138,bx t [.func (.func 194) #[ag [iv o,iv n,iv m,iv p,bv l]] #[],.func (.func 195) #[ag [iv j,iv k,iv h,iv q,bv i]] #[],.func (.func 196) #[] #[pt a 0],.func (.func 197) #[] #[pt a 0]] 234,bx r [iv 2] 3,bx s [iv u] 3] ?_)
  subst hR
  refine ie (A8 ?_)
  exact cD hr hD (Q9 rfl (D4 (us:=V7 Cur.zero) D6w rfl 0 rfl rfl rfl) (B0 rfl)) () (mk [false,false,false,true,true,true,true] rfl) A9.nil
 refine A4 (nx (sr 2 rfl (zrg 2 0 [1] [] [bx w (V7 Cur.zero) 40,bx v (V7 ({c with wrap:=false})) 40,bx y [iv fRows,iv fCols,iv fTop,iv fBottom,bv fOrigin] 138,bx a [iv e,iv f,iv g,iv b,bv d] 138,bx t [.func (.func 194) #[ag [iv o,iv n,iv m,iv p,bv l]] #[],.func (.func 195) #[ag [iv j,iv k,iv h,iv q,bv i]] #[],.func (.func 196) #[] #[pt a 0],.func (.func 197) #[] #[pt a 0]] 234,bx r [iv 2] 3,bx s [iv u] 3] ?_)))
 refine ie (sr 2 rfl (ip' 1 1 [(17,.func (.func 199) #[] #[pt t 0,pt r 0,pt s 0])] ?_))
 refine it rfl (G7 (L2:=[bx w (V7 Cur.zero) 40,bx y [iv fRows,iv fCols,iv fTop,iv fBottom,bv fOrigin] 138]) (C7u (c:=({c with wrap:=false})) (p10f0:=o) (p10f1:=n) (p10f2:=m) (p10f3:=p) (p10f4:=l) (p11f0:=j) (p11f1:=k) (p11f2:=h) (p11f3:=q) (p11f4:=i) (p12cRows:=e) (p12cCols:=f) (p12cTop:=g) (p12cBottom:=b) (p12cOrigin:=d) (p3:=u) (cb:=v) (p1b:=t) (p12cb:=a) (p2b:=r) (p3b:=s) rfl) rfl rfl rfl rfl rfl A9.nil (H2 [[bx w (V7 Cur.zero) 40],[bx v (V7 ({c with wrap:=false})) 40],[bx y [iv fRows,iv fCols,iv fTop,iv fBottom,bv fOrigin] 138],[bx a [iv e,iv f,iv g,iv b,bv d] 138],[bx t [.func (.func 194) #[ag [iv o,iv n,iv m,iv p,bv l]] #[],.func (.func 195) #[ag [iv j,iv k,iv h,iv q,bv i]] #[],.func (.func 196) #[] #[pt a 0],.func (.func 197) #[] #[pt a 0]] 234],[bx r [iv 2] 3],[bx s [iv u] 3]] [1,3,4,5,6,0,2] 7 rfl ozw rfl [[bx v (V7 ({c with wrap:=false})) 40],[bx a [iv e,iv f,iv g,iv b,bv d] 138],[bx t [.func (.func 194) #[ag [iv o,iv n,iv m,iv p,bv l]] #[],.func (.func 195) #[ag [iv j,iv k,iv h,iv q,bv i]] #[],.func (.func 196) #[] #[pt a 0],.func (.func 197) #[] #[pt a 0]] 234],[bx r [iv 2] 3],[bx s [iv u] 3],[bx w (V7 Cur.zero) 40],[bx y [iv fRows,iv fCols,iv fTop,iv fBottom,bv fOrigin] 138]] rfl opl) (fun _=>[bx v (V7 (Y9 ({c with wrap:=false}) o n m p l j k h q i e f g b d u)) 40,bx a [iv e,iv f,iv g,iv b,bv d] 138,bx t [.func (.func 194) #[ag [iv o,iv n,iv m,iv p,bv l]] #[],.func (.func 195) #[ag [iv j,iv k,iv h,iv q,bv i]] #[],.func (.func 196) #[] #[pt a 0],.func (.func 197) #[] #[pt a 0]] 234,bx r [iv 2] 3,bx s [iv u] 3,bx w (V7 Cur.zero) 40,bx y [iv fRows,iv fCols,iv fTop,iv fBottom,bv fOrigin] 138]) (fun _=>rfl)) fun _=>?_
 refine ie (sr 3 rfl (zrg 3 0 [0,5] [(7,iv 0)] [bx v (V7 (Y9 ({c with wrap:=false}) o n m p l j k h q i e f g b d u)) 40,bx a [iv e,iv f,iv g,iv b,bv d] 138,bx t [.func (.func 194) #[ag [iv o,iv n,iv m,iv p,bv l]] #[],.func (.func 195) #[ag [iv j,iv k,iv h,iv q,bv i]] #[],.func (.func 196) #[] #[pt a 0],.func (.func 197) #[] #[pt a 0]] 234,bx r [iv 2] 3,bx s [iv u] 3,bx w (V7 (Y9 ({c with wrap:=false}) o n m p l j k h q i e f g b d u)) 40,bx y [iv fRows,iv fCols,iv fTop,iv fBottom,bv fOrigin] 138] ?_))
 subst hR
 refine ie (A8 ?_)
 exact cD hr hD (Q9 rfl (D4 (us:=V7 (Y9 ({c with wrap:=false}) o n m p l j k h q i e f g b d u)) D6w rfl 5 rfl rfl rfl) (B0 rfl)) () (mk [false,true,true,true,true,false,false] rfl) A9.nil
def B0h (fRows:Int) (fCols:Int) (fTop:Int) (fBottom:Int) (fOrigin:Bool) (c:Cur) (n:Int):Cur×Int :=
 (bif (!decide ((K1 fRows fCols fTop fBottom fOrigin c)=0)) then (Cur.zero,(K1 fRows fCols fTop fBottom fOrigin c)) else (bif (decide (n<0)) then (Cur.zero,2) else (C2 (B4a fRows fCols fTop fBottom fOrigin c fRows fCols fTop fBottom fOrigin fRows fCols fTop fBottom fOrigin fRows fCols fTop fBottom fOrigin (if (IntKind.i64.wrap (fRows+fCols))<n then (IntKind.i64.wrap (fRows+fCols)) else n)) fun (a:Cur×Int)=>(a.1,a.2))))
theorem D1x {fRows fCols fTop fBottom:Int} {fOrigin:Bool} {c:Cur} {n:Int} {R:Cur×Int} (hR:B0h fRows fCols fTop fBottom fOrigin c n=R):J5 Tryz.prog 106 [ag [iv fRows,iv fCols,iv fTop,iv fBottom,bv fOrigin],ag (V7 c),iv 2,iv n] [] (.tuple #[ag (V7 R.1),iv R.2]):=by
 refine bZ Tryz.func106 fun X hX hr hD=>?_
 replace hR:=(B0h.eq_1 ..).symm.trans hR
 refine bN rfl (D4x 3 3 [] (fun d i e=>[(4,pt d 0),(5,pt i 0),(6,pt e 0)]) (fun d i e=>[bx e [iv 2] 3,bx i (V7 c) 40,bx d [iv fRows,iv fCols,iv fTop,iv fBottom,bv fOrigin] 138]) (fun d i e=>?_))
 refine A8c 3 [] (fun g f=>[(7,pt g 0),(8,pt f 0)]) (fun _ _=>[iv n]) (fun _ _=>(V7 Cur.zero)) 3 40 fun g f=>?_
 refine ie (A5 (bN rfl (bY 2 2 [4,3] [(12,ag [iv fRows,iv fCols,iv fTop,iv fBottom,bv fOrigin]),(13,ag (V7 c))] ?_)))
 refine zv rfl (A5y rfl) ?_
 refine bO 1 10 rfl ?_
 refine ie (bN rfl (bO 2 16 rfl ?_))
 refine ie ?_
 refine zjn rfl hR ?_ ?_<;>clear hR<;>intro hR m j
 ·refine bN rfl (zru 4 [0] [(9,iv (K1 fRows fCols fTop fBottom fOrigin c))] 0 (bx f (V7 Cur.zero) 40) ?_)
  subst hR
  refine ie (A8 ?_)
  exact cD hr hD (Q9 rfl (D4 (us:=V7 Cur.zero) D6w rfl 0 rfl rfl rfl) (B0 rfl)) () bQ A9.nil
 refine A4 (nx (A5 (bN rfl (cE 10 [2,2,1] 28 rfl ?_))))
 refine ie ?_
 refine zjd rfl hR ?_ ?_<;>clear hR<;>intro hR o k
 ·refine bN rfl (zru 3 [0] [(9,iv 2)] 0 (bx f (V7 Cur.zero) 40) ?_)
  subst hR
  refine ie (A8 ?_)
  exact cD hr hD (Q9 rfl (D4 (us:=V7 Cur.zero) D6w rfl 0 rfl rfl rfl) (B0 rfl)) () bQ A9.nil
 refine A4 (nx (bN rfl (pl3 5 [1,4,4] 30 32 34 rfl ?_)))
 refine ix rfl (I6.pure rfl) ?_
 refine zru 2 [1] [] 1 (bx g [iv (if (IntKind.i64.wrap (fRows+fCols))<n then (IntKind.i64.wrap (fRows+fCols)) else n)] 3) ?_
 refine ie (bN rfl (zra 9 [4,4,0] (fun h=>[(11,pt h 0)]) (fun _=>[.func (.func 194) #[ag [iv fRows,iv fCols,iv fTop,iv fBottom,bv fOrigin]] #[],.func (.func 195) #[ag [iv fRows,iv fCols,iv fTop,iv fBottom,bv fOrigin]] #[],.func (.func 196) #[] #[pt d 0],.func (.func 197) #[] #[pt d 0]]) 234 fun h=>?_))
 refine ie (bN rfl (bY 3 5 [5,4] [(44,ag [iv fRows,iv fCols,iv fTop,iv fBottom,bv fOrigin]),(45,ag (V7 c)),(46,.func (.func 199) #[] #[pt h 0,pt e 0,pt g 0])] ?_))
 have l:=C9 hR;clear hR;obtain ⟨a,b,hR⟩:=l
 refine zc rfl (D2f fRows fCols fTop fBottom fOrigin c fRows fCols fTop fBottom fOrigin fRows fCols fTop fBottom fOrigin fRows fCols fTop fBottom fOrigin (if (IntKind.i64.wrap (fRows+fCols))<n then (IntKind.i64.wrap (fRows+fCols)) else n) h d e g a b) fun _=>?_
 refine zru 4 [4] [(9,iv a.2)] 4 (bx f (V7 a.1) 40) ?_
 subst hR
 refine ie (A8 ?_)
 exact cD hr hD (Q9 rfl (D4 (us:=V7 a.1) D6w rfl 4 rfl rfl rfl) (B0 rfl)) () bQ A9.nil
def Q2 (s:ScrC) (aQ:List (Rwc Cel)) (aV:List (Rwc Cel)) (aY:List Bool) (akind:Int) (am:Int) (acolor:Col) (atext:List UInt8):ScrC :=
 (C2 (A0g s aQ aV aY) fun (a:Int×Int×Int×Int×Bool)=>(C2 (B0h a.1 a.2.1 a.2.2.1 a.2.2.2.1 a.2.2.2.2 s.cursor am) fun (b:Cur×Int)=>{s with cursor:=b.1}))
theorem C0y {s:ScrC} {aQ aV:List (Rwc Cel)} {aY:List Bool} {akind am:Int} {acolor:Col} {atext:List UInt8} {sb:Nat} {aO:Option Addr} {aN:List Rwq} {aP:Nat} {aT:Option Addr} {aS:List Rwq} {aU:Nat} {aW:Option Addr} {aX:Nat} {R:ScrC} (hR:Q2 s aQ aV aY akind am acolor atext=R) (g:F1 aN aQ:=by exact bP) (m:aQ.length≤9223372036854775807:=by exact bP) (n:aQ.length≤aP:=by exact bP) (h:F1 aS aV:=by exact bP) (k:aV.length≤9223372036854775807:=by exact bP) (l:aV.length≤aU:=by exact bP) (j:aY.length≤9223372036854775807:=by exact bP) (i:aY.length≤aX:=by exact bP):cI Tryz.prog 54 [pt sb 0,ag (A1 (⟨akind,2,am,acolor,atext⟩:Act))] [bx sb (aG s aO aQ aP aT aV aU aW aY aX) 83] [sl G2 aO aN,E7 C0 aN aQ,sl G2 aT aS,E7 C0 aS aV,sl R7 aW aY] (Unit) (fun x=>.tuple #[]) (fun x=>[bx sb (aG R aO aQ aP aT aV aU aW aY aX) 83]) (fun x=>[]):=by
 refine bZ Tryz.func54 fun X hX hr hD=>?_
 replace hR:=(Q2.eq_1 ..).symm.trans hR
 have:=g.1
 have:=h.1
 refine bN rfl (B2b 1 0 [] (fun d=>[(3,pt d 0)]) (fun d=>[bx d (A1 (⟨akind,2,am,acolor,atext⟩:Act)) 60,bx sb (aG s aO aQ aP aT aV aU aW aY aX) 83]) (fun d=>?_))
 refine ie (sh' 20 [(20,[bx d (A1 (⟨akind,2,am,acolor,atext⟩:Act)) 60]),(19,[bx sb (aG s aO aQ aP aT aV aU aW aY aX) 83])] [sl G2 aO aN,E7 C0 aN aQ,sl G2 aT aS,E7 C0 aS aV,sl R7 aW aY] [bx d (A1 (⟨akind,2,am,acolor,atext⟩:Act)) 60,bx sb (aG s aO aQ aP aT aV aU aW aY aX) 83] (bV 20 0) oki rfl oki oki oki bQ A9.refl ?_)
 refine zhp [0,1,3,4,5,6,8,10] 12 (bV 20 1403) [(5,pt sb 0),(6,pt sb 0),(11,pt sb 6),(13,pt d 1),(15,pt d 2)] ?_
 refine zhl 7 [bx d (A1 (⟨akind,2,am,acolor,atext⟩:Act)) 60,bx sb (aG s aO aQ aP aT aV aU aW aY aX) 83] (bV 20 1531) rfl (D6 (us:=V7 s.cursor) D6w rfl rfl 1 rfl rfl rfl) ?_
 refine zhl 9 [bx d (A1 (⟨akind,2,am,acolor,atext⟩:Act)) 60,bx sb (aG s aO aQ aP aT aV aU aW aY aX) 83] (bV 20 2043) rfl (A2 (v:=iv 2) cA rfl rfl 0 rfl rfl) ?_
 refine zhl 11 [bx d (A1 (⟨akind,2,am,acolor,atext⟩:Act)) 60,bx sb (aG s aO aQ aP aT aV aU aW aY aX) 83] (bV 20 4091) rfl (A2 (v:=iv am) cA rfl rfl 0 rfl rfl) ?_
 have f:=C9 hR;clear hR;obtain ⟨e,b,hR⟩:=f
 refine zho 2 [bx d (A1 (⟨akind,2,am,acolor,atext⟩:Act)) 60,bx sb (aG s aO aQ aP aT aV aU aW aY aX) 83] (bV 20 4095) rfl (J7 (L2:=[bx d (A1 (⟨akind,2,am,acolor,atext⟩:Act)) 60]) (A8y b g bP bP h) rfl rfl rfl rfl rfl A9.refl (H2 [[bx d (A1 (⟨akind,2,am,acolor,atext⟩:Act)) 60],[bx sb (aG s aO aQ aP aT aV aU aW aY aX) 83]] [1,0] 2 rfl ozw rfl [[bx sb (aG s aO aQ aP aT aV aU aW aY aX) 83],[bx d (A1 (⟨akind,2,am,acolor,atext⟩:Act)) 60]] rfl opl) (fun _=>[bx d (A1 (⟨akind,2,am,acolor,atext⟩:Act)) 60,bx sb (aG s aO aQ aP aT aV aU aW aY aX) 83]) (fun _=>H2 [[bx sb (aG s aO aQ aP aT aV aU aW aY aX) 83],[bx d (A1 (⟨akind,2,am,acolor,atext⟩:Act)) 60]] [1,0] 2 rfl ozw opl [[bx d (A1 (⟨akind,2,am,acolor,atext⟩:Act)) 60],[bx sb (aG s aO aQ aP aT aV aU aW aY aX) 83]] rfl opl)) (fun _=>bQ) (fun _=>A9.refl) fun _=>?_
 have f:=C9 hR;clear hR;obtain ⟨a,c,hR⟩:=f
 refine zho 12 [bx d (A1 (⟨akind,2,am,acolor,atext⟩:Act)) 60,bx sb (aG s aO aQ aP aT aV aU aW aY aX) 83] (bV 20 8191) rfl (Det.tri (A8n (D1x c) rfl rfl rfl rfl rfl A9.nil)) (fun _=>bQ) (fun _=>A9.refl) fun _=>?_
 refine zhp [13,14,15,16,17,18] 1 (bV 20 524287) [(18,ag (V7 a.1)),(22,pt sb 6)] ?_
 refine zho 19 [bx d (A1 (⟨akind,2,am,acolor,atext⟩:Act)) 60] (bV 20 1048575) rfl (D8 (us:=V7 a.1) (cs':=aG ({s with cursor:=a.1}) aO aQ aP aT aV aU aW aY aX) D6w rfl rfl rfl 1 rfl rfl rfl rfl rfl rfl) (fun _=>bQ) (fun _=>A9.refl) fun _=>?_
 refine A2a oki ?_
 subst hR
 exact zen hr hD (A0x rfl) () bQ A9.nil
theorem E3j {a:Act} {k n:Int} (h:a.kind=k) (b:a.n=n):a=⟨k,n,a.m,a.color,a.text⟩:=by subst h;subst b;rfl
def p5 (a:Act):Prop:=(a.kind=1∨a.kind=34∨a.kind=39∨a.kind=30∨(a.kind=20∧a.n=2))∧a.text.length≤1
theorem D4u {l:List Act} (h:∀ a ∈ l,p5 a) {i:Nat} (b:i<l.length):p5 (l.getD i Act.zero):=by
 rw [List.getD_eq_getElem?_getD,List.getElem?_eq_getElem b];exact h _ (List.getElem_mem b)
def unW (x:ScrC):ScrC:={x with last:=0,cursor:={x.cursor with wrap:=false}}
def plS (al:List (Rwc Cel)) (t:List Bool) (x:ScrC) (m:List (Rwc Cel)) (a:Act):ScrC×List (Rwc Cel) :=
 if a.kind=1 then Y2 x m al t (⟨1,a.n,a.m,a.color,a.text⟩:Act) else if a.kind=34 then A0e x m al t (⟨34,a.n,a.m,a.color,a.text⟩:Act) else if a.kind=39 then (W2 {x with last:=0} m al t (⟨39,a.n,a.m,a.color,a.text⟩:Act),m)
 else if a.kind=30 then (unW x,Y1 (unW x) m al t (⟨30,a.n,a.m,a.color,a.text⟩:Act)) else (Q2 (unW x) m al t 20 a.m a.color a.text,m)
def E1a (al:List (Rwc Cel)) (t:List Bool) (x:ScrC) (m:List (Rwc Cel)) (a:Act):Prop:=x.onAlt=false∧x.sets=Sts.zero∧(a.kind=1→C1j x m a.n)∧(a.kind=34→a.n≤1000000∧B8q al t a.n.toNat x m)
def D7v (al:List (Rwc Cel)) (t:List Bool):List Act→ScrC→List (Rwc Cel)→Prop
 | [],_,_=>True
 | a::l,x,m=>E1a al t x m a∧D7v al t l (plS al t x m a).1 (plS al t x m a).2
theorem E1i {al m:List (Rwc Cel)} {t:List Bool} {l:List Act} {i:Nat} {x:ScrC} (h:D7v al t (l.drop i) x m) (a:i<l.length):E1a al t x m (l.getD i Act.zero):=by
 rw [A1f Act.zero a] at h;exact h.1
theorem D6m {al m m':List (Rwc Cel)} {t:List Bool} {l:List Act} {i:Nat} {x y:ScrC} (h:D7v al t (l.drop i) x m) (a:i<l.length) (e:plS al t x m (l.getD i Act.zero)=(y,m')):D7v al t (l.drop (i+1)) y m':=by
 rw [A1f Act.zero a] at h;have:=h.2;rw [e] at this;exact this
def U2 (aV:List (Rwc Cel)) (aY:List Bool):List Act→Nat→ScrC→List (Rwc Cel)→(ScrC×List (Rwc Cel)×List (Rwc Cel)×List Bool×Int)
 | [],t45,x,xMain=>(x,xMain,aV,aY,0)
 | hd_l1::tl_l1,t45,x,xMain=>(bif decide (hd_l1.kind=1) then (C2 (Y2 x xMain aV aY (⟨1,hd_l1.n,hd_l1.m,hd_l1.color,hd_l1.text⟩:Act)) fun (b:ScrC×List (Rwc Cel))=>U2 aV aY tl_l1 (t45+1) b.1 b.2) else (bif decide (hd_l1.kind=34) then (C2 (A0e x xMain aV aY (⟨34,hd_l1.n,hd_l1.m,hd_l1.color,hd_l1.text⟩:Act)) fun (a:ScrC×List (Rwc Cel))=>U2 aV aY tl_l1 (t45+1) a.1 a.2) else (bif decide (hd_l1.kind=39) then U2 aV aY tl_l1 (t45+1) (W2 ({x with last:=0}) xMain aV aY (⟨39,hd_l1.n,hd_l1.m,hd_l1.color,hd_l1.text⟩:Act)) xMain else (bif decide (hd_l1.kind=30) then (C2 (Y1 ({x with last:=0,cursor:={x.cursor with wrap:=false}}) xMain aV aY (⟨30,hd_l1.n,hd_l1.m,hd_l1.color,hd_l1.text⟩:Act)) fun (c:List (Rwc Cel))=>U2 aV aY tl_l1 (t45+1) ({x with last:=0,cursor:={x.cursor with wrap:=false}}) c) else U2 aV aY tl_l1 (t45+1) (Q2 ({x with last:=0,cursor:={x.cursor with wrap:=false}}) xMain aV aY 20 (hd_l1.m) (hd_l1.color) (hd_l1.text)) xMain))))
def A0v (s:ScrC) (aQ:List (Rwc Cel)) (aV:List (Rwc Cel)) (aY:List Bool) (l:List Act):List Act→Nat→(ScrC×List (Rwc Cel)×List (Rwc Cel)×List Bool×Int)
 | [],t28=>U2 aV aY l 0 s aQ
 | hd_l0::tl_l0,t28=>(bif (!decide ((H0 hd_l0)=0)) then (ScrC.zero,([]:List (Rwc Cel)),([]:List (Rwc Cel)),([]:List Bool),(H0 hd_l0)) else A0v s aQ aV aY l tl_l0 (t28+1))
def A5h (s:ScrC) (aQ:List (Rwc Cel)) (aV:List (Rwc Cel)) (aY:List Bool) (l:List Act):ScrC×List (Rwc Cel)×List (Rwc Cel)×List Bool×Int :=
 (bif (!decide ((A0q s aQ aV aY)=0)) then (ScrC.zero,([]:List (Rwc Cel)),([]:List (Rwc Cel)),([]:List Bool),(A0q s aQ aV aY)) else (bif (decide ((131072:Int)<(l.length:Int))) then (ScrC.zero,([]:List (Rwc Cel)),([]:List (Rwc Cel)),([]:List Bool),3) else A0v s aQ aV aY l l 0))
set_option maxHeartbeats 4000000 in
theorem D4w {s:ScrC} {aQ aV:List (Rwc Cel)} {aY:List Bool} {l:List Act} {aO:Option Addr} {aN:List Rwq} {aP:Nat} {aT:Option Addr} {aS:List Rwq} {aU:Nat} {aW:Option Addr} {aX:Nat} {lq:Option Addr} {lk:Nat} {R:ScrC×List (Rwc Cel)×List (Rwc Cel)×List Bool×Int} (hR:A5h s aQ aV aY l=R) (bD:F1 aN aQ:=by exact bP) (bH:aQ.length≤9223372036854775807:=by exact bP) (bI:aQ.length≤aP:=by exact bP) (bE:F1 aS aV:=by exact bP) (bJ:aV.length≤9223372036854775807:=by exact bP) (bK:aV.length≤aU:=by exact bP) (bL:aY.length≤9223372036854775807:=by exact bP) (bM:aY.length≤aX:=by exact bP) (c6:l.length≤9223372036854775807:=by exact bP) (cd:l.length≤lk:=by exact bP) (ca:s.title.length≤100000000:=by exact bP) (au:∀ a ∈ l,p5 a:=by exact bP) (b7:D7v aV aY l s aQ:=by exact bP):cI Tryz.prog 8 [ag (aG s aO aQ aP aT aV aU aW aY aX),.slice lq l.length lk] [] [sl G2 aO aN,E7 C0 aN aQ,sl G2 aT aS,E7 C0 aS aV,sl R7 aW aY,sl A1 lq l,P6,P7,O0,M9,K6] ({t:Option Addr×List Rwq×Nat // F1 t.2.1 R.2.1∧R.2.1.length≤t.2.2∧R.2.1.length≤9223372036854775807}×{t:Option Addr×List Rwq×Nat // F1 t.2.1 R.2.2.1∧R.2.2.1.length≤t.2.2∧R.2.2.1.length≤9223372036854775807}×{t:Option Addr×Nat // R.2.2.2.1.length≤t.2∧R.2.2.2.1.length≤9223372036854775807}) (fun x=>.tuple #[ag (aG R.1 x.1.1.1 R.2.1 x.1.1.2.2 x.2.1.1.1 R.2.2.1 x.2.1.1.2.2 x.2.2.1.1 R.2.2.2.1 x.2.2.1.2),iv R.2.2.2.2]) (fun x=>[]) (fun x=>[sl G2 x.1.1.1 x.1.1.2.1,E7 C0 x.1.1.2.1 R.2.1,sl G2 x.2.1.1.1 x.2.1.1.2.1,E7 C0 x.2.1.1.2.1 R.2.2.1,sl R7 x.2.2.1.1 R.2.2.2.1]):=by
 refine bZ Tryz.func8 fun X hX hr hD=>?_
 replace hR:=(A5h.eq_1 ..).symm.trans hR
 have:=bD.1
 have:=bE.1
 have b6:∀ {i:Nat},i<l.length→(l.getD i Act.zero).text.length≤100000000:=fun hi=>Nat.le_trans (D4u au hi).2 ozw
 refine bN rfl (A8c 3 [] (fun u p=>[(2,pt u 0),(4,pt p 0)]) (fun _ _=>(aG s aO aQ aP aT aV aU aW aY aX)) (fun _ _=>aI) 50 50 fun u p=>(ie (A5 (bN rfl (bY 1 2 [1] [(16,ag (aG s aO aQ aP aT aV aU aW aY aX))] (zv rfl (C8h rfl bD bP bP bE) (bO 1 6 rfl (ie (bN rfl (bO 2 19 rfl (ie ?_)))))))))))
 refine zjn rfl hR ?_ ?_<;>clear hR<;>intro hR h3 ce
 ·refine bN rfl (zru 4 [0] [(5,iv (A0q s aQ aV aY))] 0 (bx p aI 50) ?_)
  subst hR
  refine ie (A8 ?_)
  exact cD hr hD (Q9 rfl (B5t (us:=C8 ScrC.zero ⟨none,0,0⟩ ⟨none,0,0⟩ ⟨none,0,0⟩ ⟨none,0,0⟩) D7p rfl 0 rfl rfl) (B0 rfl)) (⟨(none,[],0),⟨F1.none,okl,okl⟩⟩,⟨(none,[],0),⟨F1.none,okl,okl⟩⟩,(zq none 0)) bQ c9
 refine A4 (nx (A5 (bN rfl (bO 3 24 rfl (ie ?_)))))
 refine zjd rfl hR ?_ ?_<;>clear hR<;>intro hR h4 cc
 ·refine bN rfl (zru 3 [0] [(5,iv 3)] 0 (bx p aI 50) ?_)
  subst hR
  refine ie (A8 ?_)
  exact cD hr hD (Q9 rfl (B5t (us:=C8 ScrC.zero ⟨none,0,0⟩ ⟨none,0,0⟩ ⟨none,0,0⟩ ⟨none,0,0⟩) D7p rfl 0 rfl rfl) (B0 rfl)) (⟨(none,[],0),⟨F1.none,okl,okl⟩⟩,⟨(none,[],0),⟨F1.none,okl,okl⟩⟩,(zq none 0)) bQ c9
 refine A4 (nx (A5 (bN rfl (pp3 3 26 27 28 rfl (ie (B2 (A4v (fun (r:Nat)=>(r≤l.length∧A0v s aQ aV aY l (l.drop r) r=R,[(1,.slice lq l.length lk),(2,pt u 0),(4,pt p 0),(26,.slice lq l.length lk),(27,iv (l.length:Int)),(28,iv (r:Int))],[bx p aI 50,bx u (aG s aO aQ aP aT aV aU aW aY aX) 50],[sl G2 aO aN,E7 C0 aN aQ,sl G2 aT aS,E7 C0 aS aV,sl R7 aW aY,sl A1 lq l,P6,P7,O0,M9,K6],l.length - r)) 0 ⟨opx,hR⟩ bQ A9.refl ?_)))))))
 rintro r ⟨c7,hR⟩
 refine bN rfl (bO 1 29 rfl ?_)
 refine ie (A5 (X7 rfl (fun h6=>?_) (fun h6=>?_)))
 ·have ba:=bU h6
  rw [A1f Act.zero (show r<l.length by omega)] at hR;replace hR:=(A0v.eq_2 ..).symm.trans hR
  refine A4 (nx (A5 (B2 (bN rfl (L9 5 rfl opx fun a7 ae=>(ix rfl (H9 A2p rfl rfl ae rfl r rfl opx) (ix rfl (K5 (us:=A1 (l.getD r Act.zero)) B7m rfl rfl (K2 (c:=A1) (sz:=6) ae (fun _=>rfl) 5 rfl (gd Act.zero opx)) rfl) ?_)))))))
  refine zra 2 [0] (fun b9=>[(8,pt b9 0)]) (fun _=>(A1 (l.getD r Act.zero))) 60 fun b9=>?_
  refine ie (bN rfl (bY 1 2 [0] [(32,ag (A1 (l.getD r Act.zero)))] (zv rfl (B2v rfl (by first|omega|exact hkt|exact b6 opx|(dsimp only;omega))) (bO 1 9 rfl (ie (bN rfl (bO 2 35 rfl (ie ?_))))))))
  refine zjn rfl hR ?_ ?_<;>clear hR<;>intro hR cb bu
  ·refine bN rfl (zru 4 [1] [(5,iv (H0 (l.getD r Act.zero)))] 1 (bx p aI 50) ?_)
   subst hR
   refine ie (A8 ?_)
   exact cD hr hD (Q9 rfl (B5t (us:=C8 ScrC.zero ⟨none,0,0⟩ ⟨none,0,0⟩ ⟨none,0,0⟩ ⟨none,0,0⟩) D7p rfl 1 rfl rfl) (B0 rfl)) (⟨(none,[],0),⟨F1.none,okl,okl⟩⟩,⟨(none,[],0),⟨F1.none,okl,okl⟩⟩,(zq none 0)) bQ c9
  refine A4 (nx (A0 2 rfl (ix rfl (B4 rfl rfl rfl rfl opx) (bO 1 28 rfl (A3 ?_)))))
  exact A0d (z1:=r) (r+1) ⟨opx,hR⟩ olr bQ A9.refl
 have ba:=bU h6
 rw [A2g ba] at hR;replace hR:=(A0v.eq_1 ..).symm.trans hR
 refine G6 (nx (bN rfl (zra 4 [1] (fun k=>[(10,pt k 0)]) (fun _=>(aG s aO aQ aP aT aV aU aW aY aX)) 83 fun k=>?_)))
 refine ie (bN rfl (zc rfl (C5w rfl) fun o=>?_))
 refine bO 1 11 rfl (ie (A5 (bN rfl (pp3 3 43 44 45 rfl (ie (B2 (A4v (un fun (b:Nat)=>un fun (x:ScrC)=>un fun (d:List (Rwc Cel))=>un fun (e:Option Addr)=>un fun (h:List Rwq) (f:Nat)=>(b≤l.length∧U2 aV aY (l.drop b) b x d=R∧d.length≤f∧d.length≤9223372036854775807∧F1 h d∧D7v aV aY (l.drop b) x d,[(4,pt p 0),(10,pt k 0),(11,.map (some o)),(43,.slice lq l.length lk),(44,iv (l.length:Int)),(45,iv (b:Int))],[(o,B1a),bx k (aG x e d f aT aV aU aW aY aX) 83,bx p aI 50,bx u (aG s aO aQ aP aT aV aU aW aY aX) 50],[sl G2 aO aN,E7 C0 aN aQ,sl G2 aT aS,E7 C0 aS aV,sl R7 aW aY,sl A1 lq l,P6,P7,O0,M9,K6,sl G2 e h,E7 C0 h d],l.length - b)) (0,s,aQ,aO,aN,aP) ⟨opx,hR,okl,okl,bD,(by exact b7)⟩ bQ c9 ?_)))))))
 rintro ⟨b,x,d,e,h,f⟩ ⟨c2,hR,b5,bj,g,w⟩
 have:=g.1
 refine bN rfl (bO 1 46 rfl ?_)
 refine ie (A5 (X7 rfl (fun ar=>?_) (fun ar=>?_)))
 ·have af:=bU ar
  rw [A1f Act.zero (show b<l.length by omega)] at hR;replace hR:=(U2.eq_2 ..).symm.trans hR
  refine A4 (nx (A5 (B2 (bN rfl (L9 5 rfl opx fun cf a9=>(ix rfl (H9 A2p rfl rfl a9 rfl b rfl opx) (ix rfl (K5 (us:=A1 (l.getD b Act.zero)) B7m rfl rfl (K2 (c:=A1) (sz:=6) a9 (fun _=>rfl) 5 rfl (gd Act.zero opx)) rfl) ?_)))))))
  rcases Bool.eq_false_or_eq_true (decide ((l.getD b Act.zero).kind=1)) with a4 | a4
  ·replace hR:=bt hR a4
   have ac:=of_decide_eq_true a4
   have bi:(l.getD b Act.zero)=(⟨1,(l.getD b Act.zero).n,(l.getD b Act.zero).m,(l.getD b Act.zero).color,(l.getD b Act.zero).text⟩:Act):=A7w ac
   refine P2 (v:=ag (A1 (⟨1,(l.getD b Act.zero).n,(l.getD b Act.zero).m,(l.getD b Act.zero).color,(l.getD b Act.zero).text⟩:Act))) 48 (congrArg (fun z=>some (ag (A1 z))) bi) ?_
   refine zra 2 [0] (fun ab=>[(13,pt ab 0)]) (fun _=>(A1 (⟨1,(l.getD b Act.zero).n,(l.getD b Act.zero).m,(l.getD b Act.zero).color,(l.getD b Act.zero).text⟩:Act))) 60 fun ab=>?_
   refine ie (A5 (bN rfl (cE 2 [0] 50 rfl (zv rfl (C5j (R:=true) (by decide +kernel)) (bO 1 52 rfl (ie (Z1 rfl (A4 (nx (A5 (bN rfl (bY 1 2 [0] [(57,ag (A1 (⟨1,(l.getD b Act.zero).n,(l.getD b Act.zero).m,(l.getD b Act.zero).color,(l.getD b Act.zero).text⟩:Act)))] (zv rfl (C2k (R:=true) (by rfl)) (bO 1 59 rfl (ie (Z1 rfl (A4 (nx (bN rfl (pl2 3 [0] 66 68 rfl ?_))))))))))))))))))))
   refine ix rfl (A5g (v:=aE 41) (j:=0) D2h rfl rfl rfl 1 rfl oki) (ip' 5 0 [(14,aE 41),(15,bv true)] (ie (bN rfl (bO 1 72 rfl (ie (J9 rfl (A0 4 rfl (bY 3 1 [0] [(73,aE 41),(74,pt k 0),(75,ag (A1 (⟨1,(l.getD b Act.zero).n,(l.getD b Act.zero).m,(l.getD b Act.zero).color,(l.getD b Act.zero).text⟩:Act)))] ?_))))))))
   have hQ:=C9 hR;clear hR;obtain ⟨y1,bp,hR⟩:=hQ
   refine zc rfl (B9d (s:=x) (aQ:=d) (aV:=aV) (aY:=aY) (a:=(⟨1,(l.getD b Act.zero).n,(l.getD b Act.zero).m,(l.getD b Act.zero).color,(l.getD b Act.zero).text⟩:Act)) (sb:=k) (aO:=e) (aN:=h) (aP:=f) (aT:=aT) (aS:=aS) (aU:=aU) (aW:=aW) (aX:=aX) bp g bP bP bE bP bP bP bP (by first|assumption|exact (E1i w opx).2.1) (by first|assumption|exact (E1i w opx).2.2.1 oiu)) fun ⟨⟨ax,bh,aw⟩,b4⟩=>?_
   obtain ⟨ad,c3,c1⟩:=b4
   have:=ad.1
   refine A3 (nx (A0 2 rfl (ix rfl (B4 rfl rfl rfl rfl opx) (bO 1 45 rfl (A3 (Q3 (H2 [[bx k (aG y1.1 ax y1.2 aw aT aV aU aW aY aX) 83],[bx ab (A1 (⟨1,(l.getD b Act.zero).n,(l.getD b Act.zero).m,(l.getD b Act.zero).color,(l.getD b Act.zero).text⟩:Act)) 60],[(o,B1a)],[bx p aI 50],[bx u (aG s aO aQ aP aT aV aU aW aY aX) 50]] [2,0,3,4,1] 5 rfl ozw rfl [[(o,B1a)],[bx k (aG y1.1 ax y1.2 aw aT aV aU aW aY aX) 83],[bx p aI 50],[bx u (aG s aO aQ aP aT aV aU aW aY aX) 50],[bx ab (A1 (⟨1,(l.getD b Act.zero).n,(l.getD b Act.zero).m,(l.getD b Act.zero).color,(l.getD b Act.zero).text⟩:Act)) 60]] rfl opv) ?_))))))
   exact A0d (z1:=(b,x,d,e,h,f)) (b+1,y1.1,y1.2,ax,bh,aw) ⟨opx,hR,okl,okl,ad,(by exact D6m w opx (by unfold plS;(repeat' split)<;>first|(exfalso;omega)|rfl|assumption|(refine congrArg (Prod.mk _) ?_;assumption)))⟩ olr bQ c9
  ·replace hR:=bf hR a4
   have ac:=of_decide_eq_false a4
   rcases Bool.eq_false_or_eq_true (decide ((l.getD b Act.zero).kind=34)) with a8 | a8
   ·replace hR:=bt hR a8
    have ah:=of_decide_eq_true a8
    have bc:(l.getD b Act.zero)=(⟨34,(l.getD b Act.zero).n,(l.getD b Act.zero).m,(l.getD b Act.zero).color,(l.getD b Act.zero).text⟩:Act):=A7w ah
    refine P2 (v:=ag (A1 (⟨34,(l.getD b Act.zero).n,(l.getD b Act.zero).m,(l.getD b Act.zero).color,(l.getD b Act.zero).text⟩:Act))) 48 (congrArg (fun z=>some (ag (A1 z))) bc) ?_
    refine zra 2 [0] (fun aa=>[(13,pt aa 0)]) (fun _=>(A1 (⟨34,(l.getD b Act.zero).n,(l.getD b Act.zero).m,(l.getD b Act.zero).color,(l.getD b Act.zero).text⟩:Act))) 60 fun aa=>?_
    refine ie (A5 (bN rfl (cE 2 [0] 50 rfl (zv rfl (C3z (R:=true) (by decide +kernel)) (bO 1 52 rfl (ie (Z1 rfl (A4 (nx (A5 (bN rfl (bY 1 2 [0] [(57,ag (A1 (⟨34,(l.getD b Act.zero).n,(l.getD b Act.zero).m,(l.getD b Act.zero).color,(l.getD b Act.zero).text⟩:Act)))] (zv rfl (C1a (R:=true) (by rfl)) (bO 1 59 rfl (ie (Z1 rfl (A4 (nx (bN rfl (pl2 3 [0] 66 68 rfl ?_))))))))))))))))))))
    refine ix rfl (A5g (v:=aE 42) (j:=1) D2h rfl rfl rfl 1 rfl oki) (ip' 5 0 [(14,aE 42),(15,bv true)] (ie (bN rfl (bO 1 72 rfl (ie (J9 rfl (A0 4 rfl (bY 3 1 [0] [(73,aE 42),(74,pt k 0),(75,ag (A1 (⟨34,(l.getD b Act.zero).n,(l.getD b Act.zero).m,(l.getD b Act.zero).color,(l.getD b Act.zero).text⟩:Act)))] ?_))))))))
    have hQ:=C9 hR;clear hR;obtain ⟨y0,bo,hR⟩:=hQ
    refine zc rfl (B8l (s:=x) (aQ:=d) (aV:=aV) (aY:=aY) (a:=(⟨34,(l.getD b Act.zero).n,(l.getD b Act.zero).m,(l.getD b Act.zero).color,(l.getD b Act.zero).text⟩:Act)) (sb:=k) (aO:=e) (aN:=h) (aP:=f) (aT:=aT) (aS:=aS) (aU:=aU) (aW:=aW) (aX:=aX) bo g bP bP bE bP bP bP bP (by first|assumption|exact (E1i w opx).2.2.2 oiu)) fun ⟨⟨ay,bg,av⟩,bd⟩=>?_
    obtain ⟨an,c0,bw⟩:=bd
    have:=an.1
    refine A3 (nx (A0 2 rfl (ix rfl (B4 rfl rfl rfl rfl opx) (bO 1 45 rfl (A3 (Q3 (H2 [[bx k (aG y0.1 ay y0.2 av aT aV aU aW aY aX) 83],[bx aa (A1 (⟨34,(l.getD b Act.zero).n,(l.getD b Act.zero).m,(l.getD b Act.zero).color,(l.getD b Act.zero).text⟩:Act)) 60],[(o,B1a)],[bx p aI 50],[bx u (aG s aO aQ aP aT aV aU aW aY aX) 50]] [2,0,3,4,1] 5 rfl ozw rfl [[(o,B1a)],[bx k (aG y0.1 ay y0.2 av aT aV aU aW aY aX) 83],[bx p aI 50],[bx u (aG s aO aQ aP aT aV aU aW aY aX) 50],[bx aa (A1 (⟨34,(l.getD b Act.zero).n,(l.getD b Act.zero).m,(l.getD b Act.zero).color,(l.getD b Act.zero).text⟩:Act)) 60]] rfl opv) ?_))))))
    exact A0d (z1:=(b,x,d,e,h,f)) (b+1,y0.1,y0.2,ay,bg,av) ⟨opx,hR,okl,okl,an,(by exact D6m w opx (by unfold plS;(repeat' split)<;>first|(exfalso;omega)|rfl|assumption|(refine congrArg (Prod.mk _) ?_;assumption)))⟩ olr bQ c9
   ·replace hR:=bf hR a8
    have ah:=of_decide_eq_false a8
    rcases Bool.eq_false_or_eq_true (decide ((l.getD b Act.zero).kind=39)) with a3 | a3
    ·replace hR:=bt hR a3
     have aj:=of_decide_eq_true a3
     have bk:(l.getD b Act.zero)=(⟨39,(l.getD b Act.zero).n,(l.getD b Act.zero).m,(l.getD b Act.zero).color,(l.getD b Act.zero).text⟩:Act):=A7w aj
     refine P2 (v:=ag (A1 (⟨39,(l.getD b Act.zero).n,(l.getD b Act.zero).m,(l.getD b Act.zero).color,(l.getD b Act.zero).text⟩:Act))) 48 (congrArg (fun z=>some (ag (A1 z))) bk) ?_
     refine zra 2 [0] (fun a1=>[(13,pt a1 0)]) (fun _=>(A1 (⟨39,(l.getD b Act.zero).n,(l.getD b Act.zero).m,(l.getD b Act.zero).color,(l.getD b Act.zero).text⟩:Act))) 60 fun a1=>?_
     refine ie (A5 (bN rfl (cE 2 [0] 50 rfl (zv rfl (C5a (R:=false) (by decide +kernel)) (bO 1 52 rfl (ie (J9 rfl (A0 5 rfl (bO 4 56 rfl (it rfl (D8 (us:=[iv 0]) (cs':=aG ({x with last:=0}) e d f aT aV aU aW aY aX) cA rfl rfl rfl 2 rfl rfl rfl rfl rfl rfl) fun _=>?_))))))))))
     refine A3 (nx (A5 (bN rfl (bY 1 2 [0] [(57,ag (A1 (⟨39,(l.getD b Act.zero).n,(l.getD b Act.zero).m,(l.getD b Act.zero).color,(l.getD b Act.zero).text⟩:Act)))] (zv rfl (C0z (R:=true) (by rfl)) (bO 1 59 rfl (ie (Z1 rfl (A4 (nx (bN rfl (pl2 3 [0] 66 68 rfl (ix rfl (A5g (v:=aE 72) (j:=32) D2h rfl rfl rfl 1 rfl oki) (ip' 5 0 [(14,aE 72),(15,bv true)] (ie (bN rfl (bO 1 72 rfl ?_)))))))))))))))))
     refine ie (J9 rfl (A0 4 rfl (bY 3 1 [0] [(73,aE 72),(74,pt k 0),(75,ag (A1 (⟨39,(l.getD b Act.zero).n,(l.getD b Act.zero).m,(l.getD b Act.zero).color,(l.getD b Act.zero).text⟩:Act)))] (it rfl (G7 (L2:=[bx a1 (A1 (⟨39,(l.getD b Act.zero).n,(l.getD b Act.zero).m,(l.getD b Act.zero).color,(l.getD b Act.zero).text⟩:Act)) 60,(o,B1a),bx p aI 50,bx u (aG s aO aQ aP aT aV aU aW aY aX) 50]) (C2c (s:=({x with last:=0})) (aQ:=d) (aV:=aV) (aY:=aY) (a:=(⟨39,(l.getD b Act.zero).n,(l.getD b Act.zero).m,(l.getD b Act.zero).color,(l.getD b Act.zero).text⟩:Act)) (sb:=k) (aO:=e) (aN:=h) (aP:=f) (aT:=aT) (aS:=aS) (aU:=aU) (aW:=aW) (aX:=aX) rfl g bP bP bE) rfl rfl rfl rfl rfl c9 (H2 [[bx a1 (A1 (⟨39,(l.getD b Act.zero).n,(l.getD b Act.zero).m,(l.getD b Act.zero).color,(l.getD b Act.zero).text⟩:Act)) 60],[(o,B1a)],[bx k (aG ({x with last:=0}) e d f aT aV aU aW aY aX) 83],[bx p aI 50],[bx u (aG s aO aQ aP aT aV aU aW aY aX) 50]] [2,0,1,3,4] 5 rfl ozw rfl [[bx k (aG ({x with last:=0}) e d f aT aV aU aW aY aX) 83],[bx a1 (A1 (⟨39,(l.getD b Act.zero).n,(l.getD b Act.zero).m,(l.getD b Act.zero).color,(l.getD b Act.zero).text⟩:Act)) 60],[(o,B1a)],[bx p aI 50],[bx u (aG s aO aQ aP aT aV aU aW aY aX) 50]] rfl opv) (fun _=>[bx k (C8 (W2 ({x with last:=0}) d aV aY (⟨39,(l.getD b Act.zero).n,(l.getD b Act.zero).m,(l.getD b Act.zero).color,(l.getD b Act.zero).text⟩:Act)) ⟨e,d.length,f⟩ ⟨aT,aV.length,aU⟩ ⟨none,0,0⟩ ⟨aW,aY.length,aX⟩) 83,bx a1 (A1 (⟨39,(l.getD b Act.zero).n,(l.getD b Act.zero).m,(l.getD b Act.zero).color,(l.getD b Act.zero).text⟩:Act)) 60,(o,B1a),bx p aI 50,bx u (aG s aO aQ aP aT aV aU aW aY aX) 50]) (fun _=>rfl)) fun _=>?_))))
     refine A3 (nx (A0 2 rfl (ix rfl (B4 rfl rfl rfl rfl opx) (bO 1 45 rfl (A3 (Q3 (H2 [[bx k (C8 (W2 ({x with last:=0}) d aV aY (⟨39,(l.getD b Act.zero).n,(l.getD b Act.zero).m,(l.getD b Act.zero).color,(l.getD b Act.zero).text⟩:Act)) ⟨e,d.length,f⟩ ⟨aT,aV.length,aU⟩ ⟨none,0,0⟩ ⟨aW,aY.length,aX⟩) 83],[bx a1 (A1 (⟨39,(l.getD b Act.zero).n,(l.getD b Act.zero).m,(l.getD b Act.zero).color,(l.getD b Act.zero).text⟩:Act)) 60],[(o,B1a)],[bx p aI 50],[bx u (aG s aO aQ aP aT aV aU aW aY aX) 50]] [2,0,3,4,1] 5 rfl ozw rfl [[(o,B1a)],[bx k (C8 (W2 ({x with last:=0}) d aV aY (⟨39,(l.getD b Act.zero).n,(l.getD b Act.zero).m,(l.getD b Act.zero).color,(l.getD b Act.zero).text⟩:Act)) ⟨e,d.length,f⟩ ⟨aT,aV.length,aU⟩ ⟨none,0,0⟩ ⟨aW,aY.length,aX⟩) 83],[bx p aI 50],[bx u (aG s aO aQ aP aT aV aU aW aY aX) 50],[bx a1 (A1 (⟨39,(l.getD b Act.zero).n,(l.getD b Act.zero).m,(l.getD b Act.zero).color,(l.getD b Act.zero).text⟩:Act)) 60]] rfl opv) ?_))))))
     exact A0d (z1:=(b,x,d,e,h,f)) (b+1,(W2 ({x with last:=0}) d aV aY (⟨39,(l.getD b Act.zero).n,(l.getD b Act.zero).m,(l.getD b Act.zero).color,(l.getD b Act.zero).text⟩:Act)),d,e,h,f) ⟨opx,hR,okl,okl,g,(by exact D6m w opx (by unfold plS;(repeat' split)<;>first|(exfalso;omega)|rfl|assumption|(refine congrArg (Prod.mk _) ?_;assumption)))⟩ olr bQ A9.refl
    ·replace hR:=bf hR a3
     have aj:=of_decide_eq_false a3
     rcases Bool.eq_false_or_eq_true (decide ((l.getD b Act.zero).kind=30)) with a2 | a2
     ·replace hR:=bt hR a2
      have ak:=of_decide_eq_true a2
      have be:(l.getD b Act.zero)=(⟨30,(l.getD b Act.zero).n,(l.getD b Act.zero).m,(l.getD b Act.zero).color,(l.getD b Act.zero).text⟩:Act):=A7w ak
      refine P2 (v:=ag (A1 (⟨30,(l.getD b Act.zero).n,(l.getD b Act.zero).m,(l.getD b Act.zero).color,(l.getD b Act.zero).text⟩:Act))) 48 (congrArg (fun z=>some (ag (A1 z))) be) ?_
      refine zra 2 [0] (fun y=>[(13,pt y 0)]) (fun _=>(A1 (⟨30,(l.getD b Act.zero).n,(l.getD b Act.zero).m,(l.getD b Act.zero).color,(l.getD b Act.zero).text⟩:Act))) 60 fun y=>?_
      refine ie (A5 (bN rfl (cE 2 [0] 50 rfl (zv rfl (C3f (R:=false) (by decide +kernel)) (bO 1 52 rfl (ie (J9 rfl (A0 5 rfl (bO 4 56 rfl (it rfl (D8 (us:=[iv 0]) (cs':=aG ({x with last:=0}) e d f aT aV aU aW aY aX) cA rfl rfl rfl 2 rfl rfl rfl rfl rfl rfl) fun _=>?_))))))))))
      refine A3 (nx (A5 (bN rfl (bY 1 2 [0] [(57,ag (A1 (⟨30,(l.getD b Act.zero).n,(l.getD b Act.zero).m,(l.getD b Act.zero).color,(l.getD b Act.zero).text⟩:Act)))] (zv rfl (C0u (R:=false) (by rfl)) (bO 1 59 rfl (ie (J9 rfl (A0 6 rfl (bO 5 64 rfl (it rfl (D8 (us:=[bv false]) (cs':=aG ({x with last:=0,cursor:={x.cursor with wrap:=false}}) e d f aT aV aU aW aY aX) ty4 rfl rfl rfl 2 rfl rfl rfl rfl rfl rfl) fun _=>?_)))))))))))
      refine A3 (nx (bN rfl (pl2 3 [0] 66 68 rfl (ix rfl (A5g (v:=aE 59) (j:=19) D2h rfl rfl rfl 1 rfl oki) (ip' 5 0 [(14,aE 59),(15,bv true)] (ie (bN rfl (bO 1 72 rfl (ie (J9 rfl (A0 4 rfl (bY 3 1 [0] [(73,aE 59),(74,pt k 0),(75,ag (A1 (⟨30,(l.getD b Act.zero).n,(l.getD b Act.zero).m,(l.getD b Act.zero).color,(l.getD b Act.zero).text⟩:Act)))] ?_))))))))))))
      have hQ:=C9 hR;clear hR;obtain ⟨y2,bm,hR⟩:=hQ
      refine it rfl (G7 (L2:=[bx y (A1 (⟨30,(l.getD b Act.zero).n,(l.getD b Act.zero).m,(l.getD b Act.zero).color,(l.getD b Act.zero).text⟩:Act)) 60,(o,B1a),bx p aI 50,bx u (aG s aO aQ aP aT aV aU aW aY aX) 50]) (B8w (s:=({x with last:=0,cursor:={x.cursor with wrap:=false}})) (aQ:=d) (aV:=aV) (aY:=aY) (a:=(⟨30,(l.getD b Act.zero).n,(l.getD b Act.zero).m,(l.getD b Act.zero).color,(l.getD b Act.zero).text⟩:Act)) (sb:=k) (aO:=e) (aN:=h) (aP:=f) (aT:=aT) (aS:=aS) (aU:=aU) (aW:=aW) (aX:=aX) bm g bP bP bE bP bP bP bP (by first|assumption|rfl|exact (E1i w opx).1|(simp only [*];done))) rfl rfl rfl rfl rfl c9 (H2 [[bx y (A1 (⟨30,(l.getD b Act.zero).n,(l.getD b Act.zero).m,(l.getD b Act.zero).color,(l.getD b Act.zero).text⟩:Act)) 60],[(o,B1a)],[bx k (aG ({x with last:=0,cursor:={x.cursor with wrap:=false}}) e d f aT aV aU aW aY aX) 83],[bx p aI 50],[bx u (aG s aO aQ aP aT aV aU aW aY aX) 50]] [2,0,1,3,4] 5 rfl ozw rfl [[bx k (aG ({x with last:=0,cursor:={x.cursor with wrap:=false}}) e d f aT aV aU aW aY aX) 83],[bx y (A1 (⟨30,(l.getD b Act.zero).n,(l.getD b Act.zero).m,(l.getD b Act.zero).color,(l.getD b Act.zero).text⟩:Act)) 60],[(o,B1a)],[bx p aI 50],[bx u (aG s aO aQ aP aT aV aU aW aY aX) 50]] rfl opv) (fun ⟨⟨a6,ao,a5⟩,al⟩=>[bx k (aG ({x with last:=0,cursor:={x.cursor with wrap:=false}}) a6 y2 a5 aT aV aU aW aY aX) 83,bx y (A1 (⟨30,(l.getD b Act.zero).n,(l.getD b Act.zero).m,(l.getD b Act.zero).color,(l.getD b Act.zero).text⟩:Act)) 60,(o,B1a),bx p aI 50,bx u (aG s aO aQ aP aT aV aU aW aY aX) 50]) (fun _=>rfl)) fun ⟨⟨a6,ao,a5⟩,al⟩=>?_
      obtain ⟨aq,bz,c4⟩:=al
      have:=aq.1
      refine A3 (nx (A0 2 rfl (ix rfl (B4 rfl rfl rfl rfl opx) (bO 1 45 rfl (A3 (Q3 (H2 [[bx k (aG ({x with last:=0,cursor:={x.cursor with wrap:=false}}) a6 y2 a5 aT aV aU aW aY aX) 83],[bx y (A1 (⟨30,(l.getD b Act.zero).n,(l.getD b Act.zero).m,(l.getD b Act.zero).color,(l.getD b Act.zero).text⟩:Act)) 60],[(o,B1a)],[bx p aI 50],[bx u (aG s aO aQ aP aT aV aU aW aY aX) 50]] [2,0,3,4,1] 5 rfl ozw rfl [[(o,B1a)],[bx k (aG ({x with last:=0,cursor:={x.cursor with wrap:=false}}) a6 y2 a5 aT aV aU aW aY aX) 83],[bx p aI 50],[bx u (aG s aO aQ aP aT aV aU aW aY aX) 50],[bx y (A1 (⟨30,(l.getD b Act.zero).n,(l.getD b Act.zero).m,(l.getD b Act.zero).color,(l.getD b Act.zero).text⟩:Act)) 60]] rfl opv) ?_))))))
      exact A0d (z1:=(b,x,d,e,h,f)) (b+1,{x with last:=0,cursor:={x.cursor with wrap:=false}},y2,a6,ao,a5) ⟨opx,hR,okl,okl,aq,(by exact D6m w opx (by unfold plS;(repeat' split)<;>first|(exfalso;omega)|rfl|assumption|(refine congrArg (Prod.mk _) ?_;assumption)))⟩ olr bQ c9
     ·replace hR:=bf hR a2
      have ak:=of_decide_eq_false a2
      have bb:(l.getD b Act.zero)=(⟨20,2,(l.getD b Act.zero).m,(l.getD b Act.zero).color,(l.getD b Act.zero).text⟩:Act):=E3j (by have q:p5 (l.getD b Act.zero):=D4u au opx;unfold p5 at q;omega) (by have q:p5 (l.getD b Act.zero):=D4u au opx;unfold p5 at q;omega)
      refine P2 (v:=ag (A1 (⟨20,2,(l.getD b Act.zero).m,(l.getD b Act.zero).color,(l.getD b Act.zero).text⟩:Act))) 48 (congrArg (fun z=>some (ag (A1 z))) bb) ?_
      refine zra 2 [0] (fun a0=>[(13,pt a0 0)]) (fun _=>(A1 (⟨20,2,(l.getD b Act.zero).m,(l.getD b Act.zero).color,(l.getD b Act.zero).text⟩:Act))) 60 fun a0=>?_
      refine ie (A5 (bN rfl (cE 2 [0] 50 rfl (zv rfl (C3b (R:=false) (by decide +kernel)) (bO 1 52 rfl (ie (J9 rfl (A0 5 rfl (bO 4 56 rfl (it rfl (D8 (us:=[iv 0]) (cs':=aG ({x with last:=0}) e d f aT aV aU aW aY aX) cA rfl rfl rfl 2 rfl rfl rfl rfl rfl rfl) fun _=>?_))))))))))
      refine A3 (nx (A5 (bN rfl (bY 1 2 [0] [(57,ag (A1 (⟨20,2,(l.getD b Act.zero).m,(l.getD b Act.zero).color,(l.getD b Act.zero).text⟩:Act)))] (zv rfl (C0n (R:=false) (by rfl)) (bO 1 59 rfl (ie (J9 rfl (A0 6 rfl (bO 5 64 rfl (it rfl (D8 (us:=[bv false]) (cs':=aG ({x with last:=0,cursor:={x.cursor with wrap:=false}}) e d f aT aV aU aW aY aX) ty4 rfl rfl rfl 2 rfl rfl rfl rfl rfl rfl) fun _=>?_)))))))))))
      refine A3 (nx (bN rfl (pl2 3 [0] 66 68 rfl (ix rfl (A5g (v:=aE 54) (j:=14) D2h rfl rfl rfl 1 rfl oki) (ip' 5 0 [(14,aE 54),(15,bv true)] (ie (bN rfl (bO 1 72 rfl (ie (J9 rfl (A0 4 rfl (bY 3 1 [0] [(73,aE 54),(74,pt k 0),(75,ag (A1 (⟨20,2,(l.getD b Act.zero).m,(l.getD b Act.zero).color,(l.getD b Act.zero).text⟩:Act)))] (it rfl (G7 (L2:=[bx a0 (A1 (⟨20,2,(l.getD b Act.zero).m,(l.getD b Act.zero).color,(l.getD b Act.zero).text⟩:Act)) 60,(o,B1a),bx p aI 50,bx u (aG s aO aQ aP aT aV aU aW aY aX) 50]) (C0y (s:=({x with last:=0,cursor:={x.cursor with wrap:=false}})) (aQ:=d) (aV:=aV) (aY:=aY) (akind:=20) (am:=((l.getD b Act.zero).m)) (acolor:=((l.getD b Act.zero).color)) (atext:=((l.getD b Act.zero).text)) (sb:=k) (aO:=e) (aN:=h) (aP:=f) (aT:=aT) (aS:=aS) (aU:=aU) (aW:=aW) (aX:=aX) rfl g bP bP bE) rfl rfl rfl rfl rfl c9 (H2 [[bx a0 (A1 (⟨20,2,(l.getD b Act.zero).m,(l.getD b Act.zero).color,(l.getD b Act.zero).text⟩:Act)) 60],[(o,B1a)],[bx k (aG ({x with last:=0,cursor:={x.cursor with wrap:=false}}) e d f aT aV aU aW aY aX) 83],[bx p aI 50],[bx u (aG s aO aQ aP aT aV aU aW aY aX) 50]] [2,0,1,3,4] 5 rfl ozw rfl [[bx k (aG ({x with last:=0,cursor:={x.cursor with wrap:=false}}) e d f aT aV aU aW aY aX) 83],[bx a0 (A1 (⟨20,2,(l.getD b Act.zero).m,(l.getD b Act.zero).color,(l.getD b Act.zero).text⟩:Act)) 60],[(o,B1a)],[bx p aI 50],[bx u (aG s aO aQ aP aT aV aU aW aY aX) 50]] rfl opv) (fun _=>[bx k (C8 (Q2 ({x with last:=0,cursor:={x.cursor with wrap:=false}}) d aV aY 20 ((l.getD b Act.zero).m) ((l.getD b Act.zero).color) ((l.getD b Act.zero).text)) ⟨e,d.length,f⟩ ⟨aT,aV.length,aU⟩ ⟨none,0,0⟩ ⟨aW,aY.length,aX⟩) 83,bx a0 (A1 (⟨20,2,(l.getD b Act.zero).m,(l.getD b Act.zero).color,(l.getD b Act.zero).text⟩:Act)) 60,(o,B1a),bx p aI 50,bx u (aG s aO aQ aP aT aV aU aW aY aX) 50]) (fun _=>rfl)) fun _=>?_)))))))))))))
      refine A3 (nx (A0 2 rfl (ix rfl (B4 rfl rfl rfl rfl opx) (bO 1 45 rfl (A3 (Q3 (H2 [[bx k (C8 (Q2 ({x with last:=0,cursor:={x.cursor with wrap:=false}}) d aV aY 20 ((l.getD b Act.zero).m) ((l.getD b Act.zero).color) ((l.getD b Act.zero).text)) ⟨e,d.length,f⟩ ⟨aT,aV.length,aU⟩ ⟨none,0,0⟩ ⟨aW,aY.length,aX⟩) 83],[bx a0 (A1 (⟨20,2,(l.getD b Act.zero).m,(l.getD b Act.zero).color,(l.getD b Act.zero).text⟩:Act)) 60],[(o,B1a)],[bx p aI 50],[bx u (aG s aO aQ aP aT aV aU aW aY aX) 50]] [2,0,3,4,1] 5 rfl ozw rfl [[(o,B1a)],[bx k (C8 (Q2 ({x with last:=0,cursor:={x.cursor with wrap:=false}}) d aV aY 20 ((l.getD b Act.zero).m) ((l.getD b Act.zero).color) ((l.getD b Act.zero).text)) ⟨e,d.length,f⟩ ⟨aT,aV.length,aU⟩ ⟨none,0,0⟩ ⟨aW,aY.length,aX⟩) 83],[bx p aI 50],[bx u (aG s aO aQ aP aT aV aU aW aY aX) 50],[bx a0 (A1 (⟨20,2,(l.getD b Act.zero).m,(l.getD b Act.zero).color,(l.getD b Act.zero).text⟩:Act)) 60]] rfl opv) ?_))))))
      exact A0d (z1:=(b,x,d,e,h,f)) (b+1,Q2 ({x with last:=0,cursor:={x.cursor with wrap:=false}}) d aV aY 20 ((l.getD b Act.zero).m) ((l.getD b Act.zero).color) ((l.getD b Act.zero).text),d,e,h,f) ⟨opx,hR,okl,okl,g,(by exact D6m w opx (by unfold plS;(repeat' split)<;>first|(exfalso;omega)|rfl|assumption|(refine congrArg (Prod.mk _) ?_;assumption)))⟩ olr bQ A9.refl
 have af:=bU ar
 rw [A2g af] at hR;replace hR:=(U2.eq_1 ..).symm.trans hR
 refine G6 (nx (bN rfl (bO 3 80 rfl ?_)))
 refine ix rfl (D6 (us:=aG x e d f aT aV aU aW aY aX) D7p rfl rfl 1 rfl rfl rfl) (it rfl (D8 (us:=aG x e d f aT aV aU aW aY aX) (cs':=aG x e d f aT aV aU aW aY aX) D7p rfl rfl rfl 2 rfl rfl rfl rfl rfl rfl) fun _=>?_)
 refine bO 1 5 rfl ?_
 subst hR
 refine ie (A8 ?_)
 exact cD hr hD (Q9 rfl (B5t (us:=aG x e d f aT aV aU aW aY aX) D7p rfl 2 rfl rfl) (B0 rfl)) (⟨(e,h,f),⟨g,okl,okl⟩⟩,⟨(aT,aS,aU),⟨bE,okl,okl⟩⟩,(zq aW aX)) bQ c9
def O4 (n:Nat):List Cel :=
 (bif (decide ((0:Int)<(n:Int))) then ([]:List Cel) else ([]:List Cel))
theorem A1p (n:Nat):O4 n=[]:=by
 unfold O4;cases decide ((0:Int)<(n:Int))<;>rfl
theorem A8v {n:Nat} {R:List Cel} (hR:O4 n=R) (j:n≤1000000:=by exact bP):cI Tryz.prog 25 [.slice none 0 0,iv (n:Int)] [] [] ({r:VR // bR 12 R.length r}) (fun x=>.slice (va x.1.q) R.length x.1.k) (fun x=>((vo C0 37 x.1 R)++([]))) (fun x=>[]):=by
 refine bZ Tryz.func25 fun X hX hr hD=>?_
 replace hR:=(O4.eq_1 ..).symm.trans hR
 refine bN rfl (pp0 1 rfl (ie (A5 (bN rfl (bO 2 6 rfl ?_)))))
 refine ie (X7 rfl (fun b=>?_) (fun b=>?_))
 ·have a:=bU b
  exfalso;omega
 have a:=bU b
 refine A4 (nx (A5 (bN rfl (cJ 2 8 9 rfl (ix rfl (E1v W9 rfl rfl rfl rfl rfl) (bO 2 12 rfl (ix rfl (Q6 (c:=0) rfl rfl rfl rfl ozw) (ix rfl (Q6 (c:=(n:Int)) rfl rfl rfl opx opx) (bO 1 1 rfl (ie (bN rfl (bO 2 16 rfl ?_))))))))))))
 refine ie ?_
 refine zjd rfl hR ?_ ?_<;>clear hR<;>intro hR i g
 ·refine A0 10 rfl (cJ 2 17 18 rfl (ix rfl (E1v W9 rfl rfl rfl rfl rfl) (ix rfl (A9y W9 rfl rfl 0 0 0 A1n (A0i rfl rfl) A1n ozw ozw ozw (n':=0) rfl rfl) (bO 1 21 rfl (it rfl (D4a (f:=C0) (m:=n) C9d Tryz.underlying3 rfl rfl rfl rfl rfl (rfl) opx ofv ofv) fun ⟨e,d,h⟩=>?_)))))
  have:([]:List Cel).length=0:=rfl
  refine bO 2 24 rfl (ix rfl (C5c (n':=0) W9 rfl rfl 0 e.k (A0i rfl rfl) A1n opx opx rfl rfl) ?_)
  have:([]:List Cel).length=0:=rfl
  refine bO 1 0 rfl (A3 (nx (bN rfl (bO 2 4 rfl ?_))))
  subst hR
  refine ie (A8 ?_)
  exact cD hr hD (N4 rfl (B0 rfl)) ⟨e,d⟩ bQ bT
 refine A4 (nx (bN rfl (bO 2 4 rfl ?_)))
 subst hR
 refine ie (A8 ?_)
 exact cD hr hD (N4 rfl (B0 rfl)) ⟨VR.nil,bR.nil⟩ bQ bT
def H5:List (List Cel)→List Cel→Nat→List Cel
 | [],newslice,t27=>newslice
 | hd_l1::tl_l1,newslice,t27=>H5 tl_l1 (newslice++hd_l1) (t27+1)
def H6 (slices:List (List Cel)):List (List Cel)→Nat→Nat→List Cel
 | [],size,t11=>H5 slices (O4 size) 0
 | hd_l0::tl_l0,size,t11=>H6 slices tl_l0 (size+hd_l0.length) (t11+1)
def S5 (slices:List (List Cel)):List Cel :=
 H6 slices slices 0 0
theorem C3x:∀ (b:List (List Cel)) (a:List Cel) (t:Nat),H5 b a t=a++b.flatten
 | [],a,t=>by simp [H5]
 | x::b,a,t=>by simp [H5,C3x b]
theorem C3i (s:List (List Cel)):∀ (a:List (List Cel)) (z t:Nat),H6 s a z t=s.flatten
 | [],z,t=>by simp [H6,C3x,A1p]
 | x::a,z,t=>by simp [H6,C3i s a]
theorem A1l (s:List (List Cel)):S5 s=s.flatten:=C3i s s 0 0
theorem A7t {slices:List (List Cel)} {slicesq:Option Addr} {slicesrs:List Slc} {slicesk:Nat} {R:List Cel} (hR:S5 slices=R) (a:I4 slicesrs slices:=by exact bP) (t:slices.length≤9223372036854775807:=by exact bP) (s:slices.length≤slicesk:=by exact bP) (hs:slices.length≤1000:=by exact bP) (hb:∀ i,i<slices.length→(slices.getD i []).length≤1000:=by exact bP):cI Tryz.prog 9 [.slice slicesq slices.length slicesk] [] [sl A3d slicesq slicesrs,U6 C0 slicesrs slices] ({r:VR // bR 12 R.length r}) (fun x=>.slice (va x.1.q) R.length x.1.k) (fun x=>((vo C0 37 x.1 R)++([]))) (fun x=>[]):=by
 refine bZ Tryz.func9 fun X hX hr hD=>?_
 replace hR:=(S5.eq_1 ..).symm.trans hR
 have:=a.1
 refine bN rfl (pp0 1 rfl (ie (bN rfl (bO 1 3 rfl (ie (A5 (bN rfl (pp3 3 9 10 11 rfl (ie (B2 (A4v (un fun (size:Nat) (j:Nat)=>(j≤slices.length∧H6 slices (slices.drop j) size j=R∧size≤1000 * j,[(0,.slice slicesq slices.length slicesk),(3,iv (size:Int)),(9,.slice slicesq slices.length slicesk),(10,iv (slices.length:Int)),(11,iv (j:Int))],[],[sl A3d slicesq slicesrs,U6 C0 slicesrs slices],slices.length - j)) (0,0) ⟨opx,hR,opx⟩ bQ A9.refl ?_)))))))))))
 rintro ⟨size,j⟩ ⟨a8,hR,hz⟩
 refine bN rfl (bO 1 12 rfl ?_)
 refine ie (A5 (X7 rfl (fun h2=>?_) (fun h2=>?_)))
 ·have u:=bU h2
  rw [A1f [] (show j<slices.length by omega)] at hR;replace hR:=(H6.eq_2 ..).symm.trans hR
  have:=hb j opx
  refine A4 (nx (A5 (B2 (bN rfl (L9 0 rfl (by have:=a.1;omega) fun a3 o=>(D7 (B2s (k:=j) (d:=(⟨none,0,0⟩:Slc)) a 1 rfl (by have:=a.1;omega)) ?_))))))
  have:=B2y a (k:=j) (d:=(⟨none,0,0⟩:Slc)) (by have:=a.1;omega)
  refine ix rfl (H9 E6h rfl rfl o rfl j rfl opx) (ix rfl (G9 (F2 (v:=.slice ((slicesrs.getD j (⟨none,0,0⟩:Slc)).q) ((slicesrs.getD j (⟨none,0,0⟩:Slc)).n) ((slicesrs.getD j (⟨none,0,0⟩:Slc)).k)) (us:=[.slice ((slicesrs.getD j (⟨none,0,0⟩:Slc)).q) ((slicesrs.getD j (⟨none,0,0⟩:Slc)).n) ((slicesrs.getD j (⟨none,0,0⟩:Slc)).k)]) D5w rfl rfl (K2 (c:=A3d) (sz:=1) o (fun _=>rfl) 1 rfl (gd (⟨none,0,0⟩:Slc) (by have:=a.1;omega))) rfl) (B3i a (by have:=a.1;omega))) (bO 1 5 rfl (ie (bN rfl (cJ 3 15 17 rfl (ix rfl (B4 rfl rfl rfl rfl opx) (bO 1 3 rfl (ie (bN rfl (bO 2 20 rfl ?_))))))))))
  refine ie (X7 rfl (fun y=>?_) (fun y=>?_))
  ·have a2:=bU y
   exfalso;omega
  have a2:=bU y
  refine A4 (nx (A0 2 rfl (ix rfl (B4 rfl rfl rfl rfl opx) (bO 1 11 rfl (A3 ?_)))))
  exact A0d (z1:=(size,j)) (size+(slices.getD j []).length,j+1) ⟨opx,hR,opx⟩ olr bQ c9
 have u:=bU h2
 rw [A2g u] at hR;replace hR:=(H6.eq_1 ..).symm.trans hR
 refine G6 (nx (bN rfl (bO 1 23 rfl ?_)))
 refine zc rfl (A8v rfl) fun ⟨r6,p⟩=>?_
 have:=bR.le p
 have:=bR.cap p
 refine bO 1 6 rfl (ie (A5 (bN rfl (pp3 3 25 26 27 rfl (ie (B2 ?_))))))
 refine A4v (un fun (b:List Cel)=>un fun (e:VR) (g:Nat)=>(g≤slices.length∧H5 (slices.drop g) b g=R∧bR 12 b.length e∧b.length≤1000 * g,[(6,.slice (va e.q) b.length e.k),(25,.slice slicesq slices.length slicesk),(26,iv (slices.length:Int)),(27,iv (g:Int))],((vo C0 37 e b)++([])),[sl A3d slicesq slicesrs,U6 C0 slicesrs slices],slices.length - g)) (O4 size,r6,0) ⟨opx,hR,p,(by rw [A1p];simp)⟩ bQ A9.refl ?_
 rintro ⟨b,e,g⟩ ⟨a6,hR,h,a7⟩
 have:=bR.le h
 refine bN rfl (bO 1 28 rfl ?_)
 refine ie (A5 (X7 rfl (fun h9=>?_) (fun h9=>?_)))
 ·have w:=bU h9
  rw [A1f [] (show g<slices.length by omega)] at hR;replace hR:=(H5.eq_2 ..).symm.trans hR
  have:=hb g opx
  refine A4 (nx (A5 (B2 (bN rfl (L9 0 rfl (by have:=a.1;omega) fun a5 m=>(D7 (B2s (k:=g) (d:=(⟨none,0,0⟩:Slc)) a 1 rfl (by have:=a.1;omega)) ?_))))))
  have:=B2y a (k:=g) (d:=(⟨none,0,0⟩:Slc)) (by have:=a.1;omega)
  refine ix rfl (H9 E6h rfl rfl m rfl g rfl opx) (ix rfl (G9 (F2 (v:=.slice ((slicesrs.getD g (⟨none,0,0⟩:Slc)).q) ((slicesrs.getD g (⟨none,0,0⟩:Slc)).n) ((slicesrs.getD g (⟨none,0,0⟩:Slc)).k)) (us:=[.slice ((slicesrs.getD g (⟨none,0,0⟩:Slc)).q) ((slicesrs.getD g (⟨none,0,0⟩:Slc)).n) ((slicesrs.getD g (⟨none,0,0⟩:Slc)).k)]) D5w rfl rfl (K2 (c:=A3d) (sz:=1) m (fun _=>rfl) 1 rfl (gd (⟨none,0,0⟩:Slc) (by have:=a.1;omega))) rfl) (B3i a (by have:=a.1;omega))) (bO 1 8 rfl (ie (A0 4 rfl (cJ 2 31 32 rfl (it rfl (B8y (f:=C0) (r:=e) (xs:=b) (ys:=(slices.getD g [])) (pre:=[]) (post:=[]) C9d (fun _=>rfl) (fun _=>rfl) rfl rfl rfl rfl rfl rfl rfl rfl (B8 0 rfl) h ofv ofv) fun ⟨z,l⟩=>?_))))))
  have:=@List.length_append _ b (slices.getD g [])
  have:=bR.le l
  have:=bR.cap l
  refine bO 1 6 rfl (A3 (nx (A0 2 rfl (ix rfl (B4 rfl rfl rfl rfl opx) (bO 1 27 rfl (A3 ?_))))))
  exact A0d (z1:=(b,e,g)) (b++(slices.getD g []),z,g+1) ⟨opx,hR,l,opx⟩ olr bQ c9
 have w:=bU h9
 rw [A2g w] at hR;replace hR:=(H5.eq_1 ..).symm.trans hR
 refine G6 (nx (bN rfl (bO 2 2 rfl ?_)))
 subst hR
 refine ie (A8 ?_)
 exact cD hr hD (N4 rfl (B0 rfl)) ⟨e,h⟩ bQ bT
def K0 (a:List Cel):List Cel→Nat→Bool
 | [],t13=>true
 | hd_l0::tl_l0,t13=>(bif (!(decide (hd_l0=(a.getD t13 Cel.zero)))) then false else K0 a tl_l0 (t13+1))
def G1 (b:List Cel) (a:List Cel):Bool :=
 (bif (!decide ((b.length:Int)=(a.length:Int))) then false else K0 a b 0)
theorem A2e {e f:List Cel} {g:Option Addr} {s1k:Nat} {h:Option Addr} {s2k:Nat} {R:Bool} (hR:G1 e f=R) (p:e.length≤9223372036854775807:=by exact bP) (o:e.length≤s1k:=by exact bP) (n:f.length≤9223372036854775807:=by exact bP) (m:f.length≤s2k:=by exact bP):J5 Tryz.prog 10 [.slice g e.length s1k,.slice h f.length s2k] [sl C0 g e,sl C0 h f] (bv R):=by
 refine bZ Tryz.func10 fun X hX hr hD=>?_
 replace hR:=(G1.eq_1 ..).symm.trans hR
 refine bN rfl (pp0 1 rfl (ie (A5 (bN rfl (bO 5 10 rfl (ie ?_))))))
 refine zjn rfl hR ?_ ?_<;>clear hR<;>intro hR w s
 ·refine bN rfl (bO 1 4 rfl ?_)
  subst hR
  refine ie (A8 ?_)
  exact G0 hr hD
 refine A4 (nx (A5 (bN rfl (cJ 3 12 13 rfl (ie (B2 (A4v (fun (d:Nat)=>(d≤e.length∧K0 f (e.drop d) d=R,[(0,.slice g e.length s1k),(1,.slice h f.length s2k),(12,iv (e.length:Int)),(13,iv (d:Int))],[],[sl C0 g e,sl C0 h f],e.length - d)) 0 ⟨opx,hR⟩ bQ A9.refl ?_)))))))
 rintro d ⟨q,hR⟩
 refine bN rfl (bO 1 14 rfl ?_)
 refine ie (A5 (X7 rfl (fun l=>?_) (fun l=>?_)))
 ·have k:=bU l
  rw [A1f Cel.zero (show d<e.length by omega)] at hR;replace hR:=(K0.eq_2 ..).symm.trans hR
  refine A4 (nx (A5 (B2 (bN rfl (bO 2 5 rfl (ie (sd 9 rfl oki rfl (pd2 2 16 17 rfl ?_))))))))
  refine C0e 0 rfl opx fun t j=>?_
  refine dd rfl (H9 W9 rfl rfl j rfl d rfl opx) (dd rfl (K5 (us:=C0 (e.getD d Cel.zero)) C0t rfl rfl (K2 (c:=C0) (sz:=12) j (fun _=>rfl) 0 rfl (gd Cel.zero opx)) rfl) (pd2 2 20 21 rfl ?_))
  refine C0e 1 rfl opx fun v i=>?_
  refine dd rfl (H9 W9 rfl rfl i rfl d rfl opx) (dd rfl (K5 (us:=C0 (f.getD d Cel.zero)) C0t rfl rfl (K2 (c:=C0) (sz:=12) i (fun _=>rfl) 1 rfl (gd Cel.zero opx)) rfl) (dd rfl (X1 (a:=(e.getD d Cel.zero)) (b:=(f.getD d Cel.zero)) E6g rfl rfl rfl) (de ?_)))
  refine zjn rfl hR ?_ ?_<;>clear hR<;>intro hR u r
  ·refine bN rfl (bO 1 4 rfl ?_)
   subst hR
   refine ie (A8 ?_)
   exact G0 hr hD
  refine A4 (nx (A0 2 rfl (ix rfl (B4 rfl rfl rfl rfl opx) (bO 1 13 rfl (A3 ?_)))))
  exact A0d (z1:=d) (d+1) ⟨opx,hR⟩ olr bQ A9.refl
 have k:=bU l
 rw [A2g k] at hR;replace hR:=(K0.eq_1 ..).symm.trans hR
 refine G6 (nx (bN rfl (bO 1 4 rfl ?_)))
 subst hR
 refine ie (A8 ?_)
 exact G0 hr hD
end Go.Proofs.YtfcdnnheppnbaaaGreatDoor
