import Derived.Test.YtmldjljkeigpnaaGreatDoorProg
import Derived.Test.YtmldjljkeigpnaaGreatDoorMA2
import Derived.Test.YtmldjljkeigpnaaGreatDoorMB1
import Derived.Test.YtmldjljkeigpnaaGreatDoorMA3
import Derived.Test.YtmldjljkeigpnaaGreatDoorMB2
import Derived.Test.YtmldjljkeigpnaaGreatDoorMB3
set_option linter.unusedVariables false
set_option linter.unusedSimpArgs false
set_option linter.unnecessarySimpa false
set_option maxRecDepth 100000
namespace Go.Proofs.YtmldjljkeigpnaaGreatDoor
section
open Go Go.Fen open Go.IntKind (i64) open Tryz (prog)
variable {R:Int×Int} {a:Int} {s:Sty} {x y:Int}
theorem F1s:ApTy prog 68 71 12 96:=⟨by rfl,by rfl,rfl⟩
theorem G1i:ApTy prog 111 4 1 1:=⟨by rfl,by rfl,rfl⟩
theorem A1n:SlTy prog 68 71 12:=⟨by rfl,by rfl⟩
theorem G0s:SlTy prog 111 4 1:=⟨by rfl,by rfl⟩
theorem D3g:Ty prog 71 12 true:=⟨by rfl⟩
theorem F6p:Ty prog 85 2 true:=⟨by rfl⟩
theorem G3u:Ty prog 110 13 true:=⟨by rfl⟩
theorem G5m:Zero prog 4 [bv false]:=⟨by rfl⟩
theorem G1m:Zero prog 71 (D0 ZV):=⟨by rfl⟩
structure Cur where
 row:Int
 col:Int
 wrap:Bool
deriving DecidableEq
def F5 (x:Cur):List Value:=[.int .i64 x.row,.int .i64 x.col,.bool x.wrap]
def ZS:Cur:=⟨0,0,false⟩
theorem F5.inj (x y:Cur) (h:F5 x=F5 y):x=y:=by
 rcases x with ⟨_,_,_⟩
 simp_all[F5]
structure Pth where
 frm:Cur
 to_:Plc
deriving DecidableEq
def Q1 (x:Pth):List Value:=F5 x.frm++(A0n x.to_)
structure Ar4 where
 a:Int
 b:Int
 c:Int
 d:Int
deriving DecidableEq
def E2a (x:Ar4):List Value:=[.int .i64 x.a,.int .i64 x.b,.int .i64 x.c,.int .i64 x.d]
def Ar4.zero:Ar4:=⟨0,0,0,0⟩
structure Sts where
 g:Ar4
 used:Int
 once:Int
deriving DecidableEq
def D7z (x:Sts):List Value:=E2a x.g++([.int .i64 x.used,.int .i64 x.once])
def Sts.zero:Sts:=⟨Ar4.zero,0,0⟩
structure Mod where
 insert:Bool
 newline:Bool
 cursorKeys:Bool
 inverse:Bool
 origin:Bool
 auto:Bool
 visible:Bool
 paste:Bool
 focus:Bool
 sync:Bool
 keypad:Bool
 mouse:Int
 mouseSgr:Bool
deriving DecidableEq
def D1c (x:Mod):List Value:=[.bool x.insert,.bool x.newline,.bool x.cursorKeys,.bool x.inverse,.bool x.origin,.bool x.auto,.bool x.visible,.bool x.paste,.bool x.focus,.bool x.sync,.bool x.keypad,.int .i64 x.mouse,.bool x.mouseSgr]
def Mod.zero:Mod:=⟨false,false,false,false,false,false,false,false,false,false,false,0,false⟩
structure Sav where
 is_:Bool
 cursor:Cur
 style:Sty
 sets:Sts
 origin:Bool
deriving DecidableEq
def D3q (x:Sav):List Value:=[.bool x.is_]++(F5 x.cursor++(B7 x.style++(D7z x.sets++([.bool x.origin]))))
def Sav.zero:Sav:=⟨false,ZS,ZJ,Sts.zero,false⟩
structure ScrC where
 cols:Int
 rows:Int
 onAlt:Bool
 cursor:Cur
 style:Sty
 sets:Sts
 modes:Mod
 top:Int
 bottom:Int
 kept:Sav
 keptAlt:Sav
 shape:Int
 title:List UInt8
 last:Int
deriving DecidableEq
def ScrC.zero:ScrC:=⟨0,0,false,ZS,ZJ,Sts.zero,Mod.zero,0,0,Sav.zero,Sav.zero,0,[],0⟩
def A6e (x:ScrC) (c d b a:Slc):List Value:=[.int .i64 x.cols,.int .i64 x.rows,.slice c.q c.n c.k,.slice d.q d.n d.k,.bool x.onAlt,.slice b.q b.n b.k]++(F5 x.cursor++(B7 x.style++(D7z x.sets++(D1c x.modes++([.int .i64 x.top,.int .i64 x.bottom,.slice a.q a.n a.k]++(D3q x.kept++(D3q x.keptAlt++([.int .i64 x.shape,.string (bs x.title),.int .i64 x.last]))))))))
structure FrmC where
 cols:Int
 cursor:Plc
 visible:Bool
 shape:Int
 title:List UInt8
deriving DecidableEq
def Za:FrmC:=⟨0,Plc.zero,false,0,[]⟩
def C9 (x:FrmC) (a:Slc):List Value:=[.int .i64 x.cols,.slice a.q a.n a.k]++(A0n x.cursor++([.bool x.visible,.int .i64 x.shape,.string (bs x.title)]))
def B7g:Mod :=
 {Mod.zero with auto:=true,visible:=true}
theorem E9p {R:Mod} (hR:B7g=R):J7 prog 82 [] [] (ag (D1c R)):=by
 refine cD Tryz.func82 fun X hX hr hD=>?_
 rw[B7g]at hR
 refine k_ ?_
 refine cI 1 [] (fun a=>[(0,pt a 0)]) (fun _=>(D1c Mod.zero)) 110 fun a=>?_
 refine ie (k_ ?_)
 refine zru 2 [0] [] 0 (bx a (D1c ({Mod.zero with auto:=true,visible:=true})) 110) ?_
 subst hR
 exact ie (A8 (cc (I9 Z (E8 G3u Z 0)) ()))
def B1s (a:Int):Nat→List Bool→Nat→(List Bool×Int)
 | 0,_,_=>([],0)
 | fu1+1,t,k=>(bif (decide ((k:Int)<a)) then B1s a fu1 (t.set k true) (k+8) else (t,0))
def C3x (a:Int):List Bool×Int :=
 (bif ((decide (a<2))||(decide ((80:Int)<a))) then (([]:List Bool),2) else B1s a ((a - (8:Int)).toNat+1) (List.replicate ((a).toNat) false) 8)
theorem E9e {R:List Bool×Int} (hR:C3x a=R):cM prog 81 [iv a] [] [] ({r:VR // bT 1 R.1.length r}) (fun x=>.tuple #[.slice (va x.1.q) R.1.length x.1.k,iv R.2]) (fun x=>((vo B1w 4 x.1 R.1)++([]))) (fun x=>[]):=by
 refine cD Tryz.func81 fun X hX hr hD=>?_
 rw[C3x]at hR
 refine k_ ?_
 refine ie ?_
 refine k_ ?_
 refine zir 3 0 8 11 (decide (80<a)) (fun n j=>?_) ?_
 ·refine bP 3 11 Z (A1 ?_)
  exact I1 2 8 _ n bX bU Z Z Z Z Z
 refine ie ?_
 refine zjo Z hR ?_ ?_<;>intro hR y w
 ·refine k_ ?_
  subst hR
  refine ie (A8 ?_)
  exact cy ⟨_,bT.nil⟩
 refine k_ ?_
 refine it Z (C8o (f:=B1w) (l:=(a).toNat) (c:=(a).toNat) false G1i G5m.ok jJ Z (by exact congrArg (fun z=>some (Value.int .i64 z)) (show a=(((a).toNat:Nat):Int) by omega)) (by exact congrArg (fun z=>some (Value.int .i64 z)) (show a=(((a).toNat:Nat):Int) by omega)) opx ofv opx) fun ⟨o,e⟩=>?_
 have:(List.replicate ((a).toNat) false).length=((a).toNat):=List.length_replicate
 have:=bT.le e
 refine k_ ?_
 refine ie ?_
 refine k_ ?_
 refine ie (A9 ?_)
 refine A1y (un fun fu=>un fun t=>un fun d (k:Nat)=>((a - k).toNat<fu∧B1s a fu t k=R∧bT 1 t.length d∧t.length=a.toNat,[(0,_),(4,.slice (va d.q) t.length d.k),(5,iv k)],((vo _ 4 d t)++([])),_,fu)) (_,_,o,8) ⟨(Nat.lt_succ_self _),hR,e,(by exact List.length_replicate)⟩ bU bX ?_
 rintro ⟨fu,t,d,k⟩ ⟨s,hR,b,u⟩
 obtain ⟨fu1,rfl⟩:∃ m,fu=m+1:=⟨fu - 1,by omega⟩
 rw[B1s]at hR
 refine k_ ?_
 refine ie ?_
 refine cK Z hR ?_ ?_<;>intro hR h6 v
 ·refine k_ ?_
  obtain ⟨b7,i⟩:=bT.some b opx
  obtain ⟨p,g,h⟩:=d
  obtain rfl:p=some b7:=i
  refine ix Z (Z5 G0s Z Z Z k Z opx) (it Z (A8t (us:=[bv true]) (u':=true) (c:=B1w) (sz:=1) ty4 jJ Z Z Z 0 Z Z Z Z k 0 Z (gd false opx) Z Z) fun _=>(A1 ?_))
  refine k_ ?_
  refine ix Z B1 ?_
  refine k_ ?_
  refine A1 ?_
  exact z0 (_,_,_,_) ⟨opx,hR,(bT.cast b oom),(by (rw [List.length_set];exact u))⟩
 refine k_ ?_
 subst hR
 refine ie (A8 ?_)
 exact cy ⟨d,b⟩
def B6x (s:Sty):Cel :=
 {ZV with base:=32,sty:=s}
theorem E6y {R:Cel} (hR:B6x s=R):J7 prog 226 [ag (B7 s)] [] (ag (D0 R)):=by
 refine cD Tryz.func226 fun X hX hr hD=>?_
 rw[B6x]at hR
 refine k_ ?_
 refine B3r 2 [] (fun a b=>[(1,pt a 0),(2,pt b 0)]) (fun _ _=>(B7 s)) (fun _ _=>(D0 ZV)) 63 71 fun a b=>?_
 refine ie (k_ ?_)
 refine zrg 3 0 [1,0] [] [bx b (D0 ({ZV with base:=32,sty:=s})) 71,bx a (B7 s) 63] ?_
 subst hR
 refine k_ ?_
 exact cc (I9 Z (E8 D3g Z 0)) ()
def B5z (x:Int) (y:Int):Int×Int :=
 ((IntKind.u64.wrap ((IntKind.u64.wrap ((IntKind.u64.wrap ((x / 4294967296) * (y / 4294967296)))+((IntKind.u64.wrap ((IntKind.u64.wrap ((x / 4294967296) * (cH .and .u64 y 4294967295)))+((IntKind.u64.wrap ((cH .and .u64 x 4294967295) * (cH .and .u64 y 4294967295))) / 4294967296))) / 4294967296)))+((IntKind.u64.wrap ((cH .and .u64 (IntKind.u64.wrap ((IntKind.u64.wrap ((x / 4294967296) * (cH .and .u64 y 4294967295)))+((IntKind.u64.wrap ((cH .and .u64 x 4294967295) * (cH .and .u64 y 4294967295))) / 4294967296))) 4294967295)+(IntKind.u64.wrap ((cH .and .u64 x 4294967295) * (y / 4294967296))))) / 4294967296))),(IntKind.u64.wrap (x * y)))
theorem C8l (hR:B5z x y=R):J7 prog 263 [.int .u64 x,.int .u64 y] [] (.tuple #[.int .u64 R.1,.int .u64 R.2]):=by
 refine cD Tryz.func263 fun X hX hr hD=>?_
 rw[B5z]at hR
 refine k_ ?_
 refine ie (k_ ?_)
 refine ie (k_ ?_)
 refine ix Z (A4c (c:=x / 4294967296) Z Z Z ozw jW) (k_ ?_)
 refine ie (k_ ?_)
 refine ie (k_ ?_)
 refine ix Z (A4c (c:=y / 4294967296) Z Z Z ozw jW) (k_ ?_)
 refine ie (kc_ ?_)
 refine bP 4 10 rfl (ie (kc_ ?_))
 refine cF 4 27 28 rfl (ix Z (A4c (c:=(IntKind.u64.wrap ((cH .and .u64 x 4294967295) * (cH .and .u64 y 4294967295))) / 4294967296) Z Z Z ozw jW) (bP 2 11 rfl (ie (k_ ?_))))
 refine ie (k_ ?_)
 refine ix Z (A4c (c:=(IntKind.u64.wrap ((IntKind.u64.wrap ((x / 4294967296) * (cH .and .u64 y 4294967295)))+((IntKind.u64.wrap ((cH .and .u64 x 4294967295) * (cH .and .u64 y 4294967295))) / 4294967296))) / 4294967296) Z Z Z ozw jW) (k_ ?_)
 refine ie (kc_ ?_)
 refine bP 6 12 rfl (ie (kc_ ?_))
 refine cF 6 44 45 rfl (ix Z (A4c (c:=(IntKind.u64.wrap ((cH .and .u64 (IntKind.u64.wrap ((IntKind.u64.wrap ((x / 4294967296) * (cH .and .u64 y 4294967295)))+((IntKind.u64.wrap ((cH .and .u64 x 4294967295) * (cH .and .u64 y 4294967295))) / 4294967296))) 4294967295)+(IntKind.u64.wrap ((cH .and .u64 x 4294967295) * (y / 4294967296))))) / 4294967296) Z Z Z ozw jW) (bP 2 4 rfl (ie (kc_ ?_))))
 refine bP 4 5 rfl ?_
 subst hR
 exact ie (A8 (B6u hr hD))
def B1c (x:Int) (y:Int):Int×Int :=
 (B5 (B5z x y) fun (a:Int×Int)=>(a.1,a.2))
theorem wr6 (h:-1000000≤x∧x≤1000000):i64.wrap x=x:=A3b (by show (-9223372036854775808:Int)≤_;omega) (by show _≤(9223372036854775807:Int);omega)
theorem F5c:∀ c<81,B1c 1 ((c:Nat):Int)=(0,((c:Nat):Int)):=by decide +kernel
theorem F8n (n:Nat) (c:Int) (a:n=1) (b:1≤c∧c≤80):B1c (IntKind.u64.wrap (n:Int)) (IntKind.u64.wrap c)=(0,c):=by
 obtain ⟨m,rfl⟩:∃ m:Nat,c=m:=⟨c.toNat,by omega⟩
 subst a
 rw [A3b (k:=.u64) (by show (0:Int)≤_;omega) (by show _≤(18446744073709551615:Int);omega),A3b (k:=.u64) (by show (0:Int)≤_;omega) (by show _≤(18446744073709551615:Int);omega)]
 exact F5c m opx
theorem D2z (hR:B1c x y=R):J7 prog 247 [.int .u64 x,.int .u64 y] [] (.tuple #[.int .u64 R.1,.int .u64 R.2]):=by
 refine cD Tryz.func247 fun X hX hr hD=>?_
 rw[B1c]at hR
 refine k_ ?_
 refine ie (k_ ?_)
 obtain ⟨c,a,hR⟩:=C3 hR
 refine zv Z (C8l a) ?_
 refine k_ ?_
 refine ie (k_ ?_)
 subst hR
 exact ie (A8 (B6u hr hD))
def X3:Nat→jk→Nat→jk
 | 0,_,_=>[]
 | fu1+1,newslice,n=>(bif (decide ((n:Int)<(newslice.length:Int))) then X3 fu1 (newslice.take n++(newslice.take (min n (newslice.length - n):Nat)++newslice.drop (n+(min n (newslice.length - n):Nat)))) (n+(min n (newslice.length - n):Nat)) else newslice)
def A2p (x:jk) (count:Int):jk :=
 (B5 (B1c (IntKind.u64.wrap (x.length:Int)) (IntKind.u64.wrap count)) fun (a:Int×Int)=>X3 (((x.take (List.replicate ((i64.wrap a.2).toNat) ZV).length++(List.replicate ((i64.wrap a.2).toNat) ZV).drop x.length).length - (min x.length (List.replicate ((i64.wrap a.2).toNat) ZV).length:Nat))+1) (x.take (List.replicate ((i64.wrap a.2).toNat) ZV).length++(List.replicate ((i64.wrap a.2).toNat) ZV).drop x.length) (min x.length (List.replicate ((i64.wrap a.2).toNat) ZV).length:Nat))
theorem ort {p:Prop} (h:p:=by (constructor<;>first|omega|(simp +zetaDelta only [List.length_append,List.length_take,List.length_drop,List.length_replicate]<;>omega))):p:=h
theorem B2i {x:jk} {count:Int} {xq:kQ} {xk:Nat} {R:jk} (hR:A2p x count=R) (w:x.length≤9223372036854775807:=by exact bW) (y:x.length≤xk:=by exact bW) (p:1≤count∧count≤80:=by exact bW) (v:x.length=1:=by exact bW):cM prog 225 [.slice xq x.length xk,iv count] [] [sl D0 xq x] ({r:VR // bT 12 R.length r}) (fun x=>.slice (va x.1.q) R.length x.1.k) (fun x=>((vo D0 71 x.1 R)++([]))) (fun x=>[]):=by
 refine cD Tryz.func225 fun X hX hr hD=>?_
 rw[A2p]at hR
 refine k_ ?_
 refine ie (k_ ?_)
 refine ie (G3 Z (fun s=>?_) (fun s=>?_))
 ·have u:=bV s
  exfalso;omega
 have u:=bV s
 refine k_ ?_
 obtain ⟨d,j,hR⟩:=C3 hR
 refine zv Z (D2z j) ?_
 have:=F8n x.length count v p;try rw [j] at this
 have a4:d.1=0:=by rw [this]
 have a5:i64.wrap d.2=count:=by rw [this];exact wr6 (by show -1000000≤count∧count≤1000000;omega)
 have a3:d.2=count:=by rw [this]
 refine k_ ?_
 refine ie (k_ ?_)
 refine zir 3 0 23 26 (decide (9223372036854775807<d.2)) (fun g2 a7=>?_) ?_
 ·exact bP 3 26 Z (zai 2 23 _ g2)
 refine ie (G3 Z (fun o=>?_) (fun o=>?_))
 ·have t:=bV o
  exfalso;simp only [Bool.or_eq_true,decide_eq_true_eq] at o;omega
 have t:=bV o
 refine k_ ?_
 refine it Z (C8o (f:=D0) (l:=(i64.wrap d.2).toNat) (c:=(i64.wrap d.2).toNat) ZV F1s G1m.ok jJ Z (by exact congrArg (fun z=>some (Value.int .i64 z)) (show (i64.wrap d.2)=(((i64.wrap d.2).toNat:Nat):Int) by omega)) (by exact congrArg (fun z=>some (Value.int .i64 z)) (show (i64.wrap d.2)=(((i64.wrap d.2).toNat:Nat):Int) by omega)) opx ofv opx) fun ⟨r4,e⟩=>?_
 have:(List.replicate ((i64.wrap d.2).toNat) ZV).length=((i64.wrap d.2).toNat):=List.length_replicate
 have:=bT.lc e
 have:(List.replicate ((i64.wrap d.2).toNat) ZV).length=((i64.wrap d.2).toNat):=List.length_replicate
 refine k_ ?_
 refine ie (k_ ?_)
 have g:bT 12 (x.take (List.replicate ((i64.wrap d.2).toNat) ZV).length++(List.replicate ((i64.wrap d.2).toNat) ZV).drop x.length).length r4:=by rw [show (x.take (List.replicate ((i64.wrap d.2).toNat) ZV).length++(List.replicate ((i64.wrap d.2).toNat) ZV).drop x.length).length=(List.replicate ((i64.wrap d.2).toNat) ZV).length by simp only [List.length_append,List.length_take,List.length_drop];omega];exact e
 refine it Z (F1x (f:=D0) (r:=r4) (xs:=(List.replicate ((i64.wrap d.2).toNat) ZV)) (ys:=x) (pre:=[]) (post:=[]) A1n jJ jJ Z Z Z Z Z Z Z Z (A5 0 Z) e) fun _=>(k_ ?_)
 refine ie (k_ ?_)
 refine A1y (un fun (fu:Nat)=>un fun (a:jk)=>un fun (newslicer:VR) (n:Nat)=>((a.length - n)<fu∧X3 fu a n=R∧bT 12 a.length newslicer∧(a.length=count.toNat∧1≤n),[(7,.slice (va newslicer.q) a.length newslicer.k),(8,iv (n:Int))],((vo D0 71 newslicer a)++([])),[sl D0 xq x],fu)) ((((x.take (List.replicate ((i64.wrap d.2).toNat) ZV).length++(List.replicate ((i64.wrap d.2).toNat) ZV).drop x.length).length - (min x.length (List.replicate ((i64.wrap d.2).toNat) ZV).length:Nat))+1),x.take (List.replicate ((i64.wrap d.2).toNat) ZV).length++(List.replicate ((i64.wrap d.2).toNat) ZV).drop x.length,r4,(min x.length (List.replicate ((i64.wrap d.2).toNat) ZV).length:Nat)) ⟨(Nat.lt_succ_self _),hR,g,ort⟩ bU A7.refl (hE:=⟨(show some (Value.slice (va r4.q) ((List.replicate ((i64.wrap d.2).toNat) ZV).length) r4.k)=some (Value.slice (va r4.q) ((x.take (List.replicate ((i64.wrap d.2).toNat) ZV).length++(List.replicate ((i64.wrap d.2).toNat) ZV).drop x.length).length) r4.k) from congrArg (fun z=>some (Value.slice (va r4.q) z r4.k)) (show (List.replicate ((i64.wrap d.2).toNat) ZV).length=(x.take (List.replicate ((i64.wrap d.2).toNat) ZV).length++(List.replicate ((i64.wrap d.2).toNat) ZV).drop x.length).length by (simp only [List.length_append,List.length_take,List.length_drop,List.length_replicate,List.length_set];omega))),(by first|rfl|exact congrArg (fun z=>some (Value.slice _ z _)) (by first|omega|(simp only [List.length_append,List.length_take,List.length_drop,List.length_replicate];omega))),trivial⟩) ?_
 rintro ⟨fu,a,newslicer,n⟩ ⟨a6,hR,b,hn⟩
 have:=bT.le b
 obtain ⟨fu1,rfl⟩:∃ m,fu=m+1:=⟨fu - 1,by omega⟩
 rw[X3]at hR
 refine k_ ?_
 refine ie ?_
 refine cK Z hR ?_ ?_<;>intro hR h8 a1
 ·refine k_ ?_
  refine zSn [(7,[0])] ?_
  refine hq5 [0,1,2,4,5] 38 39 40 42 43 Z ?_
  have:=bT.cap b
  refine gk 3 Z (B2m A1n Z Z n _ _ (A1l Z Z) A2b A2b opx opx (Nat.le_refl _) Z Z) ?_
  have:=bT.cap b
  refine gk 6 Z (B5n A1n Z Z n _ (A1l Z Z) A2b opx (Nat.le_refl _) Z Z) ?_
  have i:bT 12 (a.take n++(a.take (min n (a.length - n):Nat)++a.drop (n+(min n (a.length - n):Nat)))).length newslicer:=by rw [show (a.take n++(a.take (min n (a.length - n):Nat)++a.drop (n+(min n (a.length - n):Nat)))).length=a.length by simp only [List.length_append,List.length_take,List.length_drop];omega];exact b
  refine go 7 [] Z (F3g (f:=D0) (r:=newslicer) (xs:=a) (l:=n) (h:=n) (pre:=[]) (post:=[]) A1n jJ jJ Z Z Z Z Z Z Z b opx opx) fun _=>?_
  refine gk 8 Z B1 ?_
  refine hq1 [9] 8 Z ?_
  refine gdn ?_
  exact Z0 (z1:=(fu1+1,a,newslicer,n)) (fu1,(a.take n++(a.take (min n (a.length - n):Nat)++a.drop (n+(min n (a.length - n):Nat)))),newslicer,(n+(min n (a.length - n):Nat))) ⟨(by simp only [List.length_append,List.length_take,List.length_drop,List.length_replicate];omega),hR,i,ort⟩ (Nat.lt_succ_self _) bU A7.refl (hE:=⟨(show some (Value.slice (va newslicer.q) a.length newslicer.k)=some (Value.slice (va newslicer.q) ((a.take n++(a.take (min n (a.length - n):Nat)++a.drop (n+(min n (a.length - n):Nat)))).length) newslicer.k) from congrArg (fun z=>some (Value.slice (va newslicer.q) z newslicer.k)) (show a.length=(a.take n++(a.take (min n (a.length - n):Nat)++a.drop (n+(min n (a.length - n):Nat)))).length by (simp only [List.length_append,List.length_take,List.length_drop,List.length_replicate,List.length_set];omega))),(show some (iv ((n:Int)+((min n (a.length - n):Nat):Int)))=some (iv ((n+(min n (a.length - n):Nat)):Int)) by first|rfl|exact congrArg (fun z=>some (Value.int .i64 z)) (by first|rfl|omega|(simp only [List.length_append,List.length_take,List.length_drop,List.length_replicate,List.length_set];omega))),trivial⟩)
 refine k_ ?_
 subst hR
 exact ie (A8 (ci ⟨_,b⟩))
def E2e (a:Int) (s:Sty):jk×Bool×Int :=
 (bif ((decide (a<2))||(decide ((80:Int)<a))) then (([]:jk),false,2) else (bif (!decide ((G2 s)=0)) then (([]:jk),false,(G2 s)) else (B5 (A2p ([(B6x s)]:jk) a) fun (b:jk)=>(b,false,0))))
theorem F2f {R:jk×Bool×Int} (hR:E2e a s=R):cM prog 194 [iv a,ag (B7 s)] [] [] ({r:VR // bT 12 R.1.length r}) (fun x=>.tuple #[ag [.slice (va x.1.q) R.1.length x.1.k,bv R.2.1],iv R.2.2]) (fun x=>((vo D0 71 x.1 R.1)++([]))) (fun x=>[]):=by
 refine cD Tryz.func194 fun X hX hr hD=>?_
 rw[E2e]at hR
 refine bS Z (B3r 3 [] (fun g d=>[(3,pt g 0),(4,pt d 0)]) (fun _ _=>(B7 s)) (fun _ _=>[.slice none 0 0,bv false]) 63 85 fun g d=>(ie (A3 (bS Z (bP 3 9 Z ?_)))))
 let A:=bx d [.slice none 0 0,bv false] 85
 refine zir 3 0 9 12 (decide (80<a)) (fun o l=>?_) ?_
 ·refine bP 3 12 Z ?_
  exact A1 (I1 2 9 _ o bX bU Z Z Z Z Z)
 refine ie ?_
 refine zjo Z hR ?_ ?_<;>intro hR p n
 ·refine bS Z (zru 3 [0] [(5,iv 2)] 0 A ?_)
  subst hR
  refine ie (A8 ?_)
  exact cc (Y4 Z (E8 F6p Z 0) A6) ⟨_,bT.nil⟩
 refine A4 (nx (A3 (bS Z (bY 1 2 [1] [(14,ag _)] (zv Z (A8r (s:=s) Z) (bP 1 6 Z (ie (bS Z (bP 2 17 Z (ie ?_))))))))))
 refine zjn Z hR ?_ ?_<;>intro hR t m
 ·refine bS Z (zru 4 [0] [(5,iv (G2 s))] 0 A ?_)
  subst hR
  refine ie (A8 ?_)
  exact cc (Y4 Z (E8 F6p Z 0) A6) ⟨_,bT.nil⟩
 refine A4 (nx (bS Z (bY 1 7 [1] [(20,ag _)] (zv Z (E6y (s:=s) Z) (it Z (B0 (c:=D0) (xs:=[(B6x s)]) A1n Z Z Z oki) fun i=>?_)))))
 have:([(B6x s)]:jk).length=1:=rfl
 refine bP 1 23 Z ?_
 obtain ⟨h,f,hR⟩:=C3 hR
 refine zc Z (B2i (x:=([(B6x s)]:jk)) (count:=a) (xq:=(some ⟨i,0,none⟩)) (xk:=1) f bW bW bW (by first|rfl|omega)) fun ⟨e,b⟩=>?_
 refine zru 3 [0] [(5,iv 0)] 0 (bx d [.slice (va e.q) h.length e.k,bv false] 85) ?_
 subst hR
 refine ie (A8 ?_)
 exact cc (Y4 Z (E8 F6p Z 0) A6) _
end
section
open Go Go.Fen open Go.IntKind (i64) open Tryz (prog)
variable {a c d:Int} {p:Pth} {r:Int} {s:Sty}
@[reducible] def aG:List Value := (A6e ScrC.zero ⟨none,0,0⟩ ⟨none,0,0⟩ ⟨none,0,0⟩ ⟨none,0,0⟩)
@[reducible] def aE (s:ScrC) (a:kQ) (b:List (Rwc Cel)) (c:Nat) (d:kQ) (e:List (Rwc Cel)) (f:Nat) (g:kQ) (h:List Bool) (i:Nat):List Value := A6e s ⟨a,b.length,c⟩ ⟨d,e.length,f⟩ ⟨none,0,0⟩ ⟨g,h.length,i⟩
theorem G1f:ApTy prog 105 85 2 32:=⟨by rfl,by rfl,rfl⟩
theorem F4l:SlTy prog 105 85 2:=⟨by rfl,by rfl⟩
theorem G0b:Ty prog 115 80 true:=⟨by rfl⟩
theorem G0n:Zero prog 85 [.slice none 0 0,bv false]:=⟨by rfl⟩
def A4x (a:Int) (s:Sty):List (Rwc Cel)→List (Rwc Cel)→Nat→List (Rwc Cel)
 | [],l,t13=>l
 | hd_l0::tl_l0,l,t13=>(B5 (E2e a s) fun (b:jk×Bool×Int)=>A4x a s tl_l0 (l.set t13 (⟨b.1,b.2.1⟩:Rwc Cel)) (t13+1))
def B4x (b:Int) (a:Int) (s:Sty):List (Rwc Cel) :=
 A4x b s (List.replicate ((a).toNat) (zwc:Rwc Cel)) (List.replicate ((a).toNat) (zwc:Rwc Cel)) 0
theorem oll {p:Prop} (h:p:=by first|rfl|simp +zetaDelta only [List.flatten_cons,List.flatten_nil,List.cons_append,List.append_assoc,List.nil_append,List.append_nil]):p:=h
theorem D9t {e:Int} {R:List (Rwc Cel)} (hR:B4x e a s=R) (a5:1≤a∧a≤40:=by exact bW) (a7:2≤e∧e≤80:=by exact bW):cM prog 123 [iv e,iv a,ag (B7 s)] [] [] ({t:VR×List Rwq // bT 2 R.length t.1∧W0 t.2 R}) (fun x=>.slice (va x.1.1.q) R.length x.1.1.k) (fun x=>((vo A9a 85 x.1.1 x.1.2)++([]))) (fun x=>[A3y D0 x.1.2 R]):=by
 refine cD Tryz.func123 fun X hX hr hD=>?_
 rw[B4x]at hR
 refine k_ ?_
 refine cI 2 [] (fun u=>[(5,pt u 0)]) (fun _=>(B7 s)) 63 fun u=>?_
 refine ie (k_ ?_)
 refine D4 (q:=A3y D0 _ (List.replicate ((a).toNat) _)) G4a (it Z (F2p (α:=Cel) (l:=(a).toNat) (cc:=(a).toNat) G1f G0n.ok Z (by exact congrArg (fun z=>some (Value.int .i64 z)) (show a=(((a).toNat:Nat):Int) by omega)) (by exact congrArg (fun z=>some (Value.int .i64 z)) (show a=(((a).toNat:Nat):Int) by omega)) opx ofv opx) fun ⟨r2,o⟩=>?_)
 have:=bT.le o
 have:(List.replicate ((a).toNat) (zwc:Rwc Cel)).length=(a).toNat:=List.length_replicate
 refine k_ ?_
 refine ie (k_ ?_)
 refine ie (A9 (A1y (un fun l=>un fun lr=>un fun g d=>(d≤(List.replicate ((a).toNat) zwc).length∧A4x e s ((List.replicate _ _).drop d) l d=R∧bT 2 l.length lr∧W0 g l∧l.length=a.toNat,[(0,_),(5,_),(7,.slice (va lr.q) l.length lr.k),(12,iv _),(13,iv d)],(bx u _ _::((vo _ _ lr g)++([]))),[_,A3y _ g l],(List.replicate ((a).toNat) (zwc:Rwc Cel)).length - d)) (_,_,_,0) ⟨opx,hR,o,(W0.rep _),(by exact List.length_replicate)⟩ bU c9 ?_))
 rintro ⟨l,lr,g,d⟩ ⟨a4,hR,f,b,w⟩
 have:=b.1
 refine k_ ?_
 refine ie (A3 (G3 Z (fun h5=>?_) (fun h5=>?_)))
 ·have v:=bV h5
  rw [A1a zwc (show d<(List.replicate ((a).toNat) (zwc:Rwc Cel)).length by omega)] at hR;rw[A4x]at hR
  refine k_ ?_
  refine ie (A0 _ Z (bY 4 6 [0] [(17,.slice (va lr.q) l.length lr.k),(18,iv d),(19,iv e),(20,ag (B7 s))] ?_))
  obtain ⟨h,a2,hR⟩:=C3 hR
  refine zc Z (F2f a2) fun ⟨i,j⟩=>?_
  refine ip' 3 2 [(22,ag [.slice (va i.q) h.1.length i.k,bv h.2.1])] ?_
  obtain ⟨b8,y⟩:=bT.some f opx
  obtain ⟨a1,n,m⟩:=lr
  obtain rfl:a1=some b8:=y
  refine D4 (G5b (k:=d) b 1 Z (by have:=b.1;omega)) (ix Z (Z5 F4l Z Z Z d Z (by have:=b.1;omega)) ?_)
  have:=bT.lc j
  refine P2 [_] ((vo _ _ _ g)++([])) j oll ?_
  have p:W0 (g.set d (⟨⟨va i.q,h.1.length,i.k⟩,h.2.1⟩:Rwq)) (l.set d (⟨h.1,h.2.1⟩:Rwc Cel)):=W0.set b d ⟨rfl,okl,okl⟩ Z
  refine D4 (G3k d (r:=(⟨⟨va i.q,h.1.length,i.k⟩,h.2.1⟩)) (x:=⟨h.1,h.2.1⟩) (A5 3 Z) (A5 0 Z)) (it Z (A8t (us:=[.slice (va i.q) h.1.length i.k,bv h.2.1]) (u':=(⟨⟨va i.q,h.1.length,i.k⟩,h.2.1⟩:Rwq)) (c:=A9a) (sz:=2) F6p jJ Z Z Z 1 Z Z Z Z d 0 Z (gd zwq (by have:=b.1;omega)) Z Z) fun _=>(k_ ?_))
  refine ix Z B1 (k_ ?_)
  exact A1 (z0 (_,_,_,_) ⟨opx,hR,(bT.cast f oom),p,(by (rw [List.length_set];exact w))⟩)
 have v:=bV h5
 rw [A1b v] at hR;rw[A4x]at hR
 refine k_ ?_
 subst hR
 exact ie (A8 (ci ⟨(_,g),⟨f,b⟩⟩))
def A8c (a:Int) (b:Int) (s:Sty):List (Rwc Cel)×Int :=
 (bif ((((decide (a<2))||(decide ((80:Int)<a)))||(decide (b<1)))||(decide ((40:Int)<b))) then (([]:List (Rwc Cel)),2) else (bif (!decide ((G2 s)=0)) then (([]:List (Rwc Cel)),(G2 s)) else (B5 (B4x a b s) fun (c:List (Rwc Cel))=>(c,0))))
theorem D6w {b:Int} {R:List (Rwc Cel)×Int} (hR:A8c b a s=R):cM prog 80 [iv b,iv a,ag (B7 s)] [] [] ({t:VR×List Rwq // bT 2 R.1.length t.1∧W0 t.2 R.1}) (fun x=>.tuple #[.slice (va x.1.1.q) R.1.length x.1.1.k,iv R.2]) (fun x=>((vo A9a 85 x.1.1 x.1.2)++([]))) (fun x=>[A3y D0 x.1.2 R.1]):=by
 refine cD Tryz.func80 fun X hX hr hD=>?_
 rw[A8c]at hR
 refine k_ ?_
 refine cI 3 [] (fun j=>[(5,pt j 0)]) (fun _=>(B7 s)) 63 fun j=>?_
 refine ie ?_
 refine k_ ?_
 refine zir 3 8 11 14 (decide (80<b)) (fun u n=>?_) ?_
 ·refine bP 3 14 Z (A1 ?_)
  exact I1 2 11 _ u bX bU Z Z Z Z Z
 refine k_ ?_
 refine zio 3 4 15 18 (decide (a<1)) (fun m=>?_) ?_
 ·have v:=bV m
  refine bP 3 18 Z (A1 ?_)
  exact I1 2 15 _ m bX bU Z Z Z Z Z
 refine k_ ?_
 refine zio 3 0 19 22 (decide (40<a)) (fun i=>?_) ?_
 ·have p:=bV i
  refine bP 3 22 Z (A1 ?_)
  exact I1 2 19 _ i bX bU Z Z Z Z Z
 refine ie ?_
 refine zjb Z hR ?_ ?_<;>intro hR l
 ·have g:=bV l
  refine k_ ?_
  subst hR
  refine ie (A8 ?_)
  exact cy ⟨(_,_),⟨bT.nil,W0.none⟩⟩
 have g:=bV l
 refine k_ ?_
 refine bY 1 2 [0] [(23,ag (B7 s))] ?_
 refine zv Z (A8r Z) ?_
 refine k_ ?_
 refine ie ?_
 refine zjn Z hR ?_ ?_<;>intro hR z o
 ·refine k_ ?_
  subst hR
  refine ie (A8 ?_)
  exact cy ⟨(_,_),⟨bT.nil,W0.none⟩⟩
 refine kc_ ?_
 refine bY 3 3 [0] [(28,iv b),(29,iv a),(30,ag (B7 s))] ?_
 obtain ⟨y,h,hR⟩:=C3 hR
 refine zc Z (D9t h) fun ⟨⟨w,f⟩,d⟩=>?_
 try dsimp only at d
 obtain ⟨e,c⟩:=d
 refine cF 2 6 7 Z ?_
 subst hR
 refine k_ ?_
 exact cy _
def A1c (cols:Int) (rows:Int):ScrC×List (Rwc Cel)×List (Rwc Cel)×List Bool×Int :=
 (B5 (A8c cols rows ZJ) fun (a:List (Rwc Cel)×Int)=>(bif (!decide (a.2=0)) then (ScrC.zero,([]:List (Rwc Cel)),([]:List (Rwc Cel)),([]:List Bool),a.2) else (B5 (A8c cols rows ZJ) fun (c:List (Rwc Cel)×Int)=>(B5 (C3x cols) fun (b:List Bool×Int)=>({ScrC.zero with cols:=cols,rows:=rows,modes:=B7g,bottom:=(i64.wrap (rows - (1:Int)))},a.1,c.1,b.1,b.2)))))
theorem B3w (c r:Int):(A1c c r).1.title.length=0:=by
 unfold A1c B5
 simp only [Bool.cond_eq_ite]
 split<;>rfl
theorem E2f (c r:Int) (s:Sty):(A8c c r s).1.length≤100:=by
 have h:∀ (w:Int) (b l:List (Rwc Cel)) (t:Nat),(A4x w s b l t).length=l.length:=by
  intro w b
  induction b<;>grind[A4x,B5]
 unfold A8c
 cases hb:((((decide (c<2))||(decide ((80:Int)<c)))||(decide (r<1)))||(decide ((40:Int)<r))) with
 | true=>simp
 | false =>
  simp only [Bool.or_eq_false_iff,decide_eq_false_iff_not] at hb
  rw [cond_false]
  cases decide (G2 s=0) with
  | false=>simp
  | true=>show (B4x c r s).length≤100;grind[B4x]
theorem C4e (c r:Int):(A1c c r).2.1.length≤100∧(A1c c r).2.2.1.length≤100:=by
 unfold A1c B5
 have h:=E2f c r ZJ
 grind
theorem C7y {cols rows:Int} {R:ScrC×List (Rwc Cel)×List (Rwc Cel)×List Bool×Int} (hR:A1c cols rows=R):cM prog 49 [iv cols,iv rows] [] [] ({t:VR×List Rwq // bT 2 R.2.1.length t.1∧W0 t.2 R.2.1}×{t:VR×List Rwq // bT 2 R.2.2.1.length t.1∧W0 t.2 R.2.2.1}×{r:VR // bT 1 R.2.2.2.1.length r}) (fun x=>.tuple #[ag (aE R.1 (va x.1.1.1.q) R.2.1 x.1.1.1.k (va x.2.1.1.1.q) R.2.2.1 x.2.1.1.1.k (va x.2.2.1.q) R.2.2.2.1 x.2.2.1.k),iv R.2.2.2.2]) (fun x=>((vo A9a 85 x.1.1.1 x.1.1.2)++((vo A9a 85 x.2.1.1.1 x.2.1.1.2)++((vo B1w 4 x.2.2.1 R.2.2.2.1)++([]))))) (fun x=>[A3y D0 x.1.1.2 R.2.1,A3y D0 x.2.1.1.2 R.2.2.1]):=by
 refine cD Tryz.func49 fun X hX hr hD=>?_
 rw[A1c]at hR
 refine k_ ?_
 refine cI 2 [] (fun m=>[(4,pt m 0)]) (fun _=>aG) 115 fun m=>?_
 refine ie ?_
 refine kc_ ?_
 refine bY 3 6 [] [(12,iv cols),(13,iv rows),(14,ag (B7 ZJ))] ?_
 obtain ⟨o,v,hR⟩:=C3 hR
 refine zc Z (D6w v) fun ⟨⟨b,h⟩,p⟩=>?_
 try dsimp only at p
 obtain ⟨i,s⟩:=p
 have:=bT.lc i
 have:=s.1
 refine k_ ?_
 refine ie ?_
 refine zjn Z hR ?_ ?_<;>intro hR h7 z
 ·refine k_ ?_
  refine zru 4 [0] [(5,iv o.2)] 0 (bx m aG 115) ?_
  subst hR
  refine ie (A8 ?_)
  exact cc (Y4 Z (E5j G0b Z 0 Z Z) A6) (⟨(_,_),⟨bT.nil,W0.none⟩⟩,⟨(_,_),⟨bT.nil,W0.none⟩⟩,⟨_,bT.nil⟩)
 refine kc_ ?_
 refine bY 3 6 [] [(23,iv cols),(24,iv rows),(25,ag (B7 ZJ))] ?_
 obtain ⟨u,w,hR⟩:=C3 hR
 refine zc Z (D6w w) fun ⟨⟨d,j⟩,g⟩=>?_
 try dsimp only at g
 obtain ⟨e,f⟩:=g
 have:=bT.lc e
 have:=f.1
 refine k_ ?_
 obtain ⟨l,y,hR⟩:=C3 hR
 refine zc Z (E9e y) fun ⟨a,c⟩=>?_
 have:=bT.lc c
 refine k_ ?_
 refine ie ?_
 refine k_ ?_
 refine zv Z (E9p Z) ?_
 refine k_ ?_
 refine ix Z (J8.pure Z) ?_
 refine zru 5 [0] [(5,iv l.2)] 0 (bx m (A6e ({ScrC.zero with cols:=cols,rows:=rows,modes:=B7g,bottom:=(i64.wrap (rows - 1))}) ⟨va b.q,o.1.length,b.k⟩ ⟨va d.q,u.1.length,d.k⟩ ⟨none,0,0⟩ ⟨va a.q,l.1.length,a.k⟩) 115) ?_
 subst hR
 refine ie (A8 (Y9 (I8 [_,_,_,_] [0,3,2,1] 4 Z ozw Z [[_],vo _ _ b h,vo _ _ d j,vo _ 4 a _] Z opv) ?_))
 exact cc (Y4 Z (E5j (us:=A6e ({ScrC.zero with cols:=cols,rows:=rows,modes:=B7g,bottom:=(i64.wrap (rows - (1:Int)))}) ⟨va b.q,o.1.length,b.k⟩ ⟨va d.q,u.1.length,d.k⟩ ⟨none,0,0⟩ ⟨va a.q,l.1.length,a.k⟩) G0b Z 0 Z Z) A6) (⟨(b,h),⟨i,s⟩⟩,⟨(d,j),⟨e,f⟩⟩,⟨a,c⟩)
def R4 (row:Int) (a:Int) (p2:Int) (b:Int):Bool :=
 ((((decide ((0:Int)≤row))&&(decide (row<p2)))&&(decide ((0:Int)≤a)))&&(decide (a<b)))
theorem B7c {row p2:Int} {c b:Addr} {R:Bool} (hR:R4 row a p2 d=R):J7 prog 97 [iv row,iv a,pa c,pa b] [at_ c [iv p2],at_ b [iv d]] (bv R):=by
 refine cD Tryz.func97 fun X hX hr hD=>?_
 rw[R4]at hR
 refine k_ ?_
 refine ie (k_ ?_)
 refine zid 4 10 9 13 (decide (row<p2)) (fun h g=>?_) ?_
 ·refine k_ ?_
  exact ix Z (B6 cE Z Z (A5 0 Z) Z) (bP 2 13 Z (zai 4 9 _ h))
 refine k_ ?_
 refine zia 3 6 14 17 (decide (0≤a)) (fun e=>?_) ?_
 ·have i:=bV e
  exact bP 3 17 Z (zai 2 14 _ e)
 refine k_ ?_
 refine zia 4 1 18 22 (decide (a<d)) (fun f=>?_) ?_
 ·have j:=bV f
  refine k_ ?_
  exact ix Z (B6 cE Z Z (A5 1 Z) Z) (bP 2 22 Z (zai 4 18 _ f))
 refine bP 1 6 Z ?_
 subst hR
 refine k_ ?_
 exact F7 hr hD
def K8 (a:Int) (b:Int) (p:Pth):Int :=
 (B5 (A1c a b) fun (c:ScrC×List (Rwc Cel)×List (Rwc Cel)×List Bool×Int)=>(bif ((((!decide (c.2.2.2.2=0))||(!(R4 p.frm.row p.frm.col b a)))||(!(R4 p.to_.row p.to_.col b a)))||(p.frm.wrap&&(!decide (p.frm.col=(i64.wrap (a - (1:Int))))))) then 2 else 0))
theorem D0w {R:Int} (hR:K8 a d p=R):J7 prog 60 [iv a,iv d,ag (Q1 p)] [] (iv R):=by
 refine cD Tryz.func60 fun X hX hr hD=>?_
 rw[K8]at hR
 refine bS Z (it Z (A2s Z Z Z) fun w=>(A6p 0 Z (it Z (A2s Z Z Z) fun z=>(A6p 0 Z (it Z (A2s Z Z Z) fun b3=>(A6p 0 Z (pp0 1 Z (ie (bS Z (ix Z (B6 cE Z Z (A5 2 Z) Z) (ix Z (B6 cE Z Z (A5 1 Z) Z) ?_)))))))))))
 obtain ⟨u,h,hR⟩:=C3 hR
 refine zc Z (C7y h) fun ⟨⟨⟨r4,a8⟩,i⟩,⟨⟨r9,a3⟩,f⟩,⟨s,g⟩⟩=>?_
 try dsimp only at i
 obtain ⟨n,y⟩:=i
 try dsimp only at f
 obtain ⟨e,t⟩:=f
 have c:=B3w a d;rw [h] at c;have b:=C4e a d;rw [h] at b
 refine cI 6 [0] (fun v=>[(8,iv u.2.2.2.2)]) (fun _=>(aE u.1 (va r4.q) u.2.1 r4.k (va r9.q) u.2.2.1 r9.k (va s.q) u.2.2.2.1 s.k)) 115 fun v=>?_
 refine ie (bS Z (ip' 2 0 [(9,.func (.func 97) #[] #[pa ⟨z,0,none⟩,pa ⟨w,0,none⟩])] (ie (A3 (bS Z (bP 3 19 Z ?_))))))
 refine zio 10 24 19 29 (!(R4 p.frm.row p.frm.col d a)) (fun o=>?_) ?_
 ·have a6:=bV o
  refine ip' 3 7 [(20,.func (.func _) #[] #[pa _,pa ⟨w,0,none⟩]),(22,pa _)] (ix Z (B6 cE Z Z (U0 (U0 (A5 2 Z) 3 Z) (ws:=[iv p.frm.row]) 1 Z) Z) (bP 2 25 Z (ix Z (B6 cE Z Z (U8 (U0 (A5 2 Z) (ws:=F5 p.frm) 3 Z) (ws:=[iv p.frm.col]) 1 1 Z) Z) (zv Z (B7c Z) (bP 2 29 Z ?_)))))
  exact A1 (I1 8 19 _ o A7.refl bU Z Z Z Z Z)
 refine bP 1 30 Z ?_
 refine zio _ 13 30 40 (!(R4 p.to_.row p.to_.col d a)) (fun j=>?_) ?_
 ·have a4:=bV j
  refine ip' 3 7 [(31,.func (.func _) #[] #[pa _,pa ⟨w,0,none⟩]),(33,pa _)] (ix Z (B6 cE Z Z (U0 (U8 (A5 2 Z) 3 2 Z) (ws:=[iv p.to_.row]) 1 Z) Z) (bP 2 36 Z (ix Z (B6 cE Z Z (U8 (U8 (A5 2 Z) (ws:=A0n p.to_) 3 2 Z) (ws:=[iv p.to_.col]) 1 1 Z) Z) (zv Z (B7c Z) (bP 2 40 Z ?_)))))
  exact A1 (I1 8 30 _ j A7.refl bU Z Z Z Z Z)
 refine bP 1 41 Z ?_
 refine zio _ 0 41 53 (p.frm.wrap&&(!decide (p.frm.col=(i64.wrap (a - 1))))) (fun r=>?_) ?_
 ·have a2:=bV r
  refine bP 2 43 Z (ix Z (B6 ty4 Z Z (U8 (U0 (A5 2 Z) 3 Z) (ws:=[bv _]) 2 1 Z) Z) (bP 1 45 Z ?_))
  refine zia 7 1 45 52 (!decide (p.frm.col=(i64.wrap (a - 1)))) (fun x=>?_) ?_
  ·refine bP 2 47 Z (ix Z (B6 cE Z Z (U8 (U0 (A5 2 Z) 3 Z) (ws:=[iv _]) 1 1 Z) Z) (ix Z (B6 cE Z Z (A5 4 Z) Z) (ix Z (J8.pure Z) (bP 2 52 Z ?_))))
   exact A1 (I1 6 45 _ x A7.refl bU Z Z Z Z Z)
  refine bP 1 53 Z ?_
  exact A1 (I1 6 41 _ r A7.refl bU Z Z Z Z Z)
 refine ie ?_
 refine zjb Z hR ?_ ?_<;>intro hR m
 ·have l:=bV m
  refine bS Z (bP 1 6 Z ?_)
  subst hR
  exact q8
 refine A4 (nx (bS Z (bP 1 6 Z ?_)))
 subst hR
 exact q8
theorem F7s (h:(A8c c r s).2=0):2≤c∧c≤80∧1≤r∧r≤40:=by
 unfold A8c at h
 grind
theorem F1y (h:(A1c c r).2.2.2.2=0):2≤c∧c≤80∧1≤r∧r≤40:=by
 unfold A1c at h;simp only [B5] at h
 cases hg:decide ((A8c c r ZJ).2=0) with
 | true=>exact F7s (of_decide_eq_true hg)
 | false =>
  grind
theorem D4t (h:(!decide (K8 c r p=0))=false):(2≤c∧c≤80∧1≤r∧r≤40)∧(0≤p.frm.row∧p.frm.row<r∧0≤p.frm.col∧p.frm.col<c)∧(0≤p.to_.row∧p.to_.row<r∧0≤p.to_.col∧p.to_.col<c)∧(p.frm.wrap=true→p.frm.col=c - 1):=by
 have a:K8 c r p=0:=by grind
 unfold K8 at a;simp only [B5] at a
 revert a
 cases hq:(!decide ((A1c c r).2.2.2.2=0)) with
 | true=>simp
 | false =>
  have b:=F1y (c:=c) (r:=r) (by grind)
  cases h1:R4 p.frm.row p.frm.col r c with
  | false=>simp
  | true =>
   cases h2:R4 p.to_.row p.to_.col r c with
   | false=>simp
   | true =>
    unfold R4 at h1 h2
    simp only [Bool.and_eq_true,decide_eq_true_eq] at h1 h2
    cases h3:p.frm.wrap with
    | false=>grind
    | true =>
     intro a
     rw [C8k (by show (-9223372036854775808:Int)≤_;omega) (by show _≤(9223372036854775807:Int);omega)] at a
     grind
theorem C7l {c0:Pth} (h:(!decide (K8 c r c0=0))=false):(0≤c0.frm.row∧c0.frm.row≤40∧0≤c0.to_.row∧c0.to_.row≤40)∧(0≤c0.frm.col∧c0.frm.col≤80∧0≤c0.to_.col∧c0.to_.col≤80):=by
 have:=D4t h;omega
end
section
open Go Go.Fen open Tryz (prog)
variable {R:jz×Int} {b:jz} {kind:Int} {l:List jz} {m n:Int} {p:Prop} {times:Int}
theorem A0c:ApTy prog 31 51 6 56:=⟨by rfl,by rfl,rfl⟩
theorem B5b:ApTy prog 95 31 1 24:=⟨by rfl,by rfl,rfl⟩
theorem A7m:SlTy prog 95 31 1:=⟨by rfl,by rfl⟩
theorem C2z:Ty prog 31 1 false:=⟨by rfl⟩
theorem G0g:Ty prog 137 5 true:=⟨by rfl⟩
def C2 (p:Pth):Pth :=
 p
theorem C7d {p R:Pth} (hR:C2 p=R):cM prog 61 [ag (Q1 p)] [] [] (Addr) (fun x=>.func (.func 98) #[] #[pa x]) (fun x=>[]) (fun x=>[at_ x (Q1 R)]):=by
 refine cD Tryz.func61 fun X hX hr hD=>?_
 rw[C2]at hR
 refine k_ ?_
 refine it Z (A2s Z Z Z) fun a=>(A6p 0 Z (k_ ?_))
 refine ie (kc_ ?_)
 refine ip' 2 0 [(2,.func (.func 98) #[] #[pa ⟨a,0,none⟩])] ?_
 subst hR
 refine k_ ?_
 exact ci _
def B9 (p:Pth):Pth :=
 p
theorem C7p {p R:Pth} (hR:B9 p=R):cM prog 100 [ag (Q1 p)] [] [] (Addr) (fun x=>.func (.func 137) #[] #[pa x]) (fun x=>[]) (fun x=>[at_ x (Q1 R)]):=by
 refine cD Tryz.func100 fun X hX hr hD=>?_
 rw[B9]at hR
 refine k_ ?_
 refine it Z (A2s Z Z Z) fun a=>(A6p 0 Z (k_ ?_))
 refine ie (kc_ ?_)
 refine ip' 2 0 [(2,.func (.func 137) #[] #[pa ⟨a,0,none⟩])] ?_
 subst hR
 refine k_ ?_
 exact ci _
def G2e (a:Act):Prop:=a.text=[]∧-1000≤a.n∧a.n≤1000∧-1000≤a.m∧a.m≤1000∧a.kind≤43∧(a.kind=20→0≤a.n∧a.n≤3)
def mwA (e:jz):Prop:=e.length≤50∧∀ a ∈ e,G2e a
theorem D5i (h:∀ e ∈ l,mwA e) (k:Nat):(l.getD k []).length≤50:=by
 rw [List.getD_eq_getElem?_getD]
 cases h3:l[k]? with
 | none=>simp
 | some y=>exact (h y (List.mem_of_getElem? h3)).1
theorem F0y {a:Act} (h:G2e a):mwA [a]:=⟨Nat.le_of_ble_eq_true Z,fun b hb=>by grind⟩
def C4s (e:jz):Prop:=e.length≤100∧∀ a ∈ e,G2e a
theorem A5d (h:C4s b):∀ a ∈ b,tk a:=fun a c=>by
 exact ⟨by rw [(h.2 a c).1];simp,(h.2 a c).2.2.2.2.2.1⟩
theorem C1f {rest:List jz} (h:∀ e ∈ b::rest,C4s e):∀ a ∈ b,tk a:=by grind[A5d,List.mem_cons_self]
theorem C1c (h:∀ e ∈ l,C4s e) (k:Nat):C4s (l.getD k []):=by
 rw [List.getD_eq_getElem?_getD]
 cases h3:l[k]? with
 | none=>exact ⟨Nat.zero_le _,fun a b=>by cases b⟩
 | some y=>grind
def W5 (n:Int) (m:Int):jz :=
 ([{ZZ with kind:=20,n:=n,m:=m}]:jz)
theorem ogf (h:p:=by first|omega|decide|(dsimp only;omega)|dsimp only):p:=h
theorem C4i (h:0≤n∧n≤3∧0≤m∧m≤1000):mwA (W5 n m) :=
 F0y ⟨rfl,show -1000≤n by omega,show n≤1000 by omega,show -1000≤m by omega,show m≤1000 by omega,ogf,fun _=>⟨h.1,h.2.1⟩⟩
theorem B1e {R:jz} (hR:W5 n m=R):cM prog 135 [iv n,iv m] [] [] ({t:kQ×Nat // R.length≤t.2∧R.length≤9223372036854775807}) (fun x=>.slice x.1.1 R.length x.1.2) (fun x=>[]) (fun x=>[sl A2 x.1.1 R]):=by
 refine cD Tryz.func135 fun X hX hr hD=>?_
 rw[W5]at hR
 refine k_ ?_
 refine ie (kc_ ?_)
 refine bY 3 2 [] [(7,ag (A2 ({ZZ with kind:=20,n:=n,m:=m})))] ?_
 refine it Z (B0 (c:=A2) (xs:=[{ZZ with kind:=20,n:=n,m:=m}]) N3 Z Z Z oki) fun a=>?_
 have:([{ZZ with kind:=20,n:=n,m:=m}]:jz).length=1:=rfl
 refine bP 1 4 Z ?_
 subst hR
 refine k_ ?_
 exact ci (zq _ 1)
def A3g (kind:Int) (times:Int):Nat→jz→Nat→jz
 | 0,_,_=>[]
 | fu1+1,out,a=>(bif (decide ((a:Int)<times)) then A3g kind times fu1 (out++([{ZZ with kind:=kind}]:jz)) (a+1) else out)
def U1 (kind:Int) (times:Int):jz :=
 A3g kind times ((times - (0:Int)).toNat+1) ([]:jz) 0
theorem D7w (kind times:Int):∀ (n t fu:Nat) (out:jz),(times - t).toNat=n→n<fu→A3g kind times fu out t=out++List.replicate n {ZZ with kind:=kind}
 | 0,t,fu+1,out,h,_=>by
  rw [A3g,jX opx];simp
 | n+1,t,fu+1,out,h,hf=>by
  rw [A3g,jQ opx]
  show A3g kind times fu (out++[{ZZ with kind:=kind}]) (t+1)=_
  rw [D7w kind times n (t+1) fu _ opx opx,List.append_assoc];rfl
theorem B0c (kind times:Int):U1 kind times=List.replicate times.toNat {ZZ with kind:=kind}:=by simp[U1,D7w]
theorem B8f {r:jz} (h:U1 kind times=r) (d:times≤50) (b:kind≤43:=by decide):r.length≤50∧mwA r:=by
 subst h;rw [B0c]
 refine ⟨by grind,by grind,fun a c=>?_⟩
 rw [List.eq_of_mem_replicate c];exact ⟨rfl,show (-1000:Int)≤0 by omega,show (0:Int)≤1000 by omega,show (-1000:Int)≤0 by omega,show (0:Int)≤1000 by omega,ogf,fun _=>⟨show (0:Int)≤0 by omega,show (0:Int)≤3 by omega⟩⟩
theorem oso (h:p:=by first|omega|(simp +zetaDelta only [List.length_cons,List.length_nil,List.length_append,List.length_take,List.length_drop,C2,B9];omega)):p:=h
theorem oqx (h:p:=by (simp +zetaDelta only [List.length_append,List.length_cons,List.length_nil];omega)):p:=h
theorem B4v {R:jz} (hR:U1 kind times=R) (i:times≤50:=by exact bW):cM prog 136 [iv kind,iv times] [] [] ({r:VR // bT 6 R.length r}) (fun x=>.slice (va x.1.q) R.length x.1.k) (fun x=>((vo A2 51 x.1 R)++([]))) (fun x=>[]):=by
 refine cD Tryz.func136 fun X hX hr hD=>?_
 rw[U1]at hR
 refine k_ ?_
 refine ie (k_ ?_)
 refine ie (k_ ?_)
 refine ie (A9 (A1y (un fun fu=>un fun out=>un fun a (e:Nat)=>((times - e).toNat<fu∧A3g _ _ fu out e=R∧bT 6 out.length a∧out.length=e,[(0,_),(5,.slice (va a.q) out.length a.k),(6,_),(7,iv e)],((vo A2 51 a out)++([])),_,fu)) (_,_,_,0) ⟨(Nat.lt_succ_self _),hR,bT.nil,odv⟩ bU bX ?_))
 rintro ⟨fu,out,a,e⟩ ⟨j,hR,b,o⟩
 have:=bT.le b
 obtain ⟨fu1,rfl⟩:∃ m,fu=m+1:=⟨fu - 1,by omega⟩
 rw[A3g]at hR
 refine k_ ?_
 refine ie (A3 ?_)
 refine cK Z hR ?_ ?_<;>clear hR<;>intro hR l g
 ·refine kc_ ?_
  refine bY 3 3 [] [(9,.slice (va a.q) out.length a.k),(11,ag (A2 ({ZZ with kind:=kind})))] ?_
  refine it Z (B0 (c:=A2) (xs:=[{ZZ with kind:=kind}]) N3 Z Z Z oki) fun n=>?_
  have:([{ZZ with kind:=kind}]:jz).length=1:=rfl
  refine it Z (Q7 (f:=A2) (r:=a) (xs:=out) (ys:=([{ZZ with kind:=kind}]:jz)) (pre:=[]) (post:=[]) A0c jJ jJ Z Z Z Z Z Z Z Z Z (A5 0 Z) b oso oso) fun ⟨h,d⟩=>(k_ ?_)
  refine ix Z B1 (k_ ?_)
  exact A1 (z0 (_,_,h,_) ⟨opx,hR,d,oqx⟩)
 refine k_ ?_
 subst hR
 exact ie (A8 (ci ⟨a,b⟩))
def H7 (c0:Pth):List jz :=
 (bif (decide ((c0.to_.row - c0.frm.row)=0)) then (([]:jz)::[]) else (bif (decide ((c0.to_.row - c0.frm.row)<0)) then (B5 (W5 0 (-(c0.to_.row - c0.frm.row))) fun (b:jz)=>(b::[])) else (B5 (W5 1 (c0.to_.row - c0.frm.row)) fun (c:jz)=>(c::(bif (decide ((c0.to_.row - c0.frm.row)≤4)) then (B5 (U1 5 (c0.to_.row - c0.frm.row)) fun (a:jz)=>(a::[])) else [])))))
theorem D5d (c0:Pth) (hb:0≤c0.frm.row∧c0.frm.row≤40∧0≤c0.to_.row∧c0.to_.row≤40):∀ e ∈ H7 c0,mwA e:=by
 unfold H7 B5
 intro e b
 rcases Int.lt_trichotomy c0.frm.row c0.to_.row with h | h | h
 ·rw [jX (show ¬ c0.to_.row - c0.frm.row=0 by omega),jX (show ¬ c0.to_.row - c0.frm.row<0 by omega)] at b
  have b:e ∈ W5 1 (c0.to_.row - c0.frm.row)::(bif decide (c0.to_.row - c0.frm.row≤4) then [U1 5 (c0.to_.row - c0.frm.row)] else []):=b
  rcases List.mem_cons.1 b with rfl | b
  ·exact C4i opx
  ·cases hd:decide (c0.to_.row - c0.frm.row≤4) with
   | true=>rw [hd] at b;rw [List.mem_singleton.1 b];exact (B8f Z opx).2
   | false=>grind
 ·rw [jQ (show c0.to_.row - c0.frm.row=0 by omega)] at b;rw [List.mem_singleton.1 b];exact ⟨Nat.zero_le _,fun a c=>by cases c⟩
 ·rw [jX (show ¬ c0.to_.row - c0.frm.row=0 by omega),jQ (show c0.to_.row - c0.frm.row<0 by omega)] at b
  rw [List.mem_singleton.1 b];exact C4i opx
theorem E4r (c0:Pth):(H7 c0).length≤2:=by unfold H7 B5;grind
theorem ofc (h:p:=by first|omega|(simp +zetaDelta only [List.length_take,List.length_drop,List.length_append,List.length_cons,List.length_nil,List.length_set,List.length_map,C2,B9];omega)|decide):p:=h
theorem C4t (c0:Pth) (g:Addr) (hb:0≤c0.frm.row∧c0.frm.row≤40∧0≤c0.to_.row∧c0.to_.row≤40) (R:List jz) (hR:H7 c0=R):C0w prog 137 [pa g] [] [at_ g (Q1 c0)] A2 R:=by
 refine C7k _ (n:=36) Tryz.func137 Z oki Z Z (fun l=>[(0,_),(1,_)]) (fun l=>⟨rfl,rfl,trivial⟩) fun X l I Ix L Φ hX hr hD hI0 hY=>?_
 rw[H7]at hR
 refine sr 8 Z (ip' 2 6 [(5,pa _)] (ix Z (B6 cE Z Z (U0 (U8 (A5 0 Z) 3 2 Z) (ws:=[iv _]) 1 Z) Z) (ip' 2 3 [(8,pa g)] (ix Z (B6 cE Z Z (U0 (U0 (A5 0 Z) 3 Z) (ws:=[iv _]) 1 Z) Z) (ix Z L8 (ip' 1 0 [(3,iv (c0.to_.row - c0.frm.row))] (ie (A9 (sr 3 Z (ip' 3 0 [(23,bv (decide ((c0.to_.row - c0.frm.row)=0)))] ?_))))))))))
 refine ie ?_
 refine cK Z hR ?_ ?_<;>clear hR<;>intro hR h1 al
 ·refine A0 2 Z (ip' 1 1 [(26,.func (.yield l) #[] #[])] ?_)
  obtain ⟨R2,hR,p⟩:=C2v hR;rw [p] at hI0
  refine it Z (A6x (L2:=[]) (hY jZ R2 _ _ none 0 ofc ofc hI0) Z Z Z Z (A7.con1 B3l (A7.dropT 1 Z)) (I8 [L] [0] 1 Z ozw Z [L] Z ooa)) fun ⟨⟨y3,L4,Φ5⟩,a4⟩=>(B1j (A7.yield _) ?_)
  subst hR
  refine A1 ?_
  exact A0y Z ⟨hr,hD⟩ (by simp [hD]) (B3x rfl) (by cases y3<;>first|exact .inr (by simpa using a4)|exact .inl (by simpa using a4)) (mcT [_] 0 rfl rfl) (A7.dropT 1 rfl)
 refine sr 3 Z (ip' 3 0 [(28,bv (decide ((c0.to_.row - c0.frm.row)<0)))] (ie ?_))
 refine cK Z hR ?_ ?_<;>clear hR<;>intro hR h8 ai
 ·refine A0 5 Z (ip' 2 3 [(31,.func (.yield l) #[] #[]),(32,iv (c0.to_.row - c0.frm.row))] (ix Z (C5m Z Z Z opx) ?_))
  obtain ⟨y1,y,hR⟩:=C3 hR
  refine zcm (B1e (n:=0) (m:=(-(c0.to_.row - c0.frm.row))) y) bX fun ⟨⟨q9,a9⟩,a3⟩=>?_
  obtain ⟨af,ah⟩:=a3
  obtain ⟨R14,hR,j⟩:=C2v hR;rw [j] at hI0
  refine it Z (A6x (L2:=[]) (hY y1 R14 _ _ q9 a9 ofc ofc hI0) Z Z Z Z (A7.con1 (A5 0 Z) (A7.dropT 2 Z)) (I8 [L] [0] 1 Z ozw Z [L] Z ooa)) fun ⟨⟨a8,L16,Φ17⟩,t⟩=>(B1j (A7.yield [sl _ q9 _,_]) ?_)
  subst hR
  refine A1 ?_
  exact A0y Z ⟨hr,hD⟩ (by simp [hD]) (B3x rfl) (by cases a8<;>first|exact .inr (by simpa using t)|exact .inl (by simpa using t)) (mcT [_] 0 rfl rfl) (A7.dropT 2 rfl)
 refine sr 8 Z (ip' 2 6 [(11,.func (.yield l) #[] #[]),(12,iv (c0.to_.row - c0.frm.row))] ?_)
 obtain ⟨y4,a0,hR⟩:=C3 hR
 refine zcm (B1e (n:=1) (m:=(c0.to_.row - c0.frm.row)) a0) bX fun ⟨⟨u,aa⟩,a1⟩=>?_
 obtain ⟨ac,ad⟩:=a1
 obtain ⟨R25,hR,i⟩:=C2v hR;rw [i] at hI0
 refine it Z (A6x (L2:=[]) (hY y4 R25 _ _ u aa ofc ofc hI0) Z Z Z Z (A7.con1 (A5 0 Z) (A7.dropT 2 Z)) (I8 [L] [0] 1 Z ozw Z [L] Z ooa)) fun ⟨⟨a2,L27,Φ28⟩,a⟩=>(B1j (A7.yield [sl _ u _,_]) (ip' 1 3 [(15,bv a2)] ?_))
 rcases Bool.eq_false_or_eq_true a2 with o | o
 ·refine E2b 15 Z (by first|exact o|(rw [o];rfl)) ?_
  rw [o] at a;try simp only [if_true,if_false,Bool.false_eq_true] at a
  refine ip' 3 0 [(18,bv (decide ((c0.to_.row - c0.frm.row)≤4)))] (ie ?_)
  refine cK Z hR ?_ ?_<;>clear hR<;>intro hR ak ae
  ·refine A0 4 Z (ip' 2 2 [(19,.func (.yield l) #[] #[]),(20,iv (c0.to_.row - c0.frm.row))] ?_)
   obtain ⟨x,w,hR⟩:=C3 hR
   refine it Z (N9 (L2:=(L27++([]))) (B4v (kind:=5) (times:=(c0.to_.row - c0.frm.row)) w opx) Z Z Z Z Z bX jK (fun ⟨f,e⟩=>(L27++((vo A2 51 f x)++([])))) (fun ⟨f,e⟩=>I8 [vo A2 51 f x,L27] [1,0] 2 Z ozw opv [L27,vo A2 51 f x] Z opv)) fun ⟨f,e⟩=>?_
   have d:=B8f w opx
   have:=d.1;try rw [w] at this
   have:=bT.cap e
   have:=bT.le e
   refine P2 (L27++([])) [] (T:=51) (c:=A2) e oll (B8g (L':=(L27++([]))) opv ?_)
   obtain ⟨R35,hR,h⟩:=C2v hR;rw [h] at a
   refine it Z (A6x (L2:=[]) (hY x R35 _ _ (va f.q) f.k ofc ofc a) Z Z Z Z (A7.con1 (A5 0 Z) (A7.dropT 3 Z)) (I8 [L27] [0] 1 Z ozw Z [L27] Z ooa)) fun ⟨⟨a7,L37,Φ38⟩,s⟩=>(B1j (A7.yield [_,_,_]) ?_)
   subst hR
   refine A1 ?_
   exact A0y Z ⟨hr,hD⟩ (by simp [hD]) (B3x rfl) (by cases a7<;>first|exact .inr (by simpa using s)|exact .inl (by simpa using s)) (mcT [_] 0 rfl rfl) (A7.dropT 3 rfl)
  subst hR
  exact A4 (A0y Z ⟨hr,hD⟩ (by simp [hD]) (B3x rfl) (by exact .inl a) (mcT [_] 0 Z Z) (A7.dropT 2 Z))
 ·refine E2b 15 Z (by first|exact o|(rw [o];rfl)) ?_
  rw [o] at a;try simp only [if_true,if_false,Bool.false_eq_true] at a
  refine ip' 3 0 [(18,bv _)] (ie (A5t Z (A4 ?_)))
  exact A0y Z ⟨hr,hD⟩ (by simp [hD]) (B3x rfl) (by exact .inr a) (mcT [_] 0 Z Z) (A7.dropT 2 Z)
def J2 (p:Pth) (a:List jz):List jz :=
 (bif (decide (p.to_.col=0)) then (B5 (U1 6 1) fun (b:jz)=>(a++([b]:List jz))) else (B5 (U1 6 1) fun (d:jz)=>(B5 (W5 2 p.to_.col) fun (c:jz)=>(a++([(d++c)]:List jz)))))
def M5 (p:Pth) (a:List jz):List jz :=
 (bif ((decide ((p.to_.col - p.frm.col)<0))&&(decide ((-(p.to_.col - p.frm.col))≤4))) then (B5 (U1 3 (-(p.to_.col - p.frm.col))) fun (b:jz)=>J2 p (a++([b]:List jz))) else J2 p a)
def J4 (p:Pth) (a:List jz):List jz :=
 (bif (decide ((p.to_.col - p.frm.col)<0)) then (B5 (W5 3 (-(p.to_.col - p.frm.col))) fun (b:jz)=>M5 p (a++([b]:List jz))) else M5 p a)
def M3 (p:Pth) (out:List jz):List jz :=
 (bif (decide ((0:Int)<(p.to_.col - p.frm.col))) then (B5 (W5 2 (p.to_.col - p.frm.col)) fun (a:jz)=>J4 p ((out++([([{ZZ with kind:=22,n:=(p.to_.col+1)}]:jz)]:List jz))++([a]:List jz))) else J4 p (out++([([{ZZ with kind:=22,n:=(p.to_.col+1)}]:jz)]:List jz)))
def K0 (p:Pth):List jz :=
 (bif (decide ((p.to_.col - p.frm.col)=0)) then M3 p (([]:List jz)++([([]:jz)]:List jz)) else M3 p ([]:List jz))
theorem C1p (p:Pth) (f:0≤p.frm.col∧p.frm.col≤80∧0≤p.to_.col∧p.to_.col≤80) (out:List jz) (h:∀ e ∈ out,mwA e):(∀ e ∈ J2 p out,mwA e)∧(J2 p out).length=out.length+1:=by
 have d:(U1 6 1).length≤50∧mwA (U1 6 1):=B8f Z opx
 unfold J2 B5
 cases decide (p.to_.col=0) with
 | true=>grind
 | false =>
  refine ⟨fun e b=>?_,by simp⟩
  rcases List.mem_append.1 b with b | b
  ·grind
  ·rw [List.mem_singleton.1 b]
   refine ⟨?_,fun a c=>?_⟩
   ·rw [List.length_append,B0c,List.length_replicate];show 1+1≤50;omega
   ·rcases List.mem_append.1 c with c | c
    ·exact d.2.2 a c
    ·rw [List.mem_singleton.1 c];exact (C4i (n:=2) (m:=p.to_.col) opx).2 _ (List.mem_singleton.2 Z)
theorem C2d (p:Pth) (b:0≤p.frm.col∧p.frm.col≤80∧0≤p.to_.col∧p.to_.col≤80) (out:List jz) (h:∀ e ∈ out,mwA e):(∀ e ∈ M5 p out,mwA e)∧(M5 p out).length≤out.length+2:=by
 unfold M5 B5
 cases hc:((decide ((p.to_.col - p.frm.col)<0))&&(decide ((-(p.to_.col - p.frm.col))≤4))) with
 | true =>
  simp only [Bool.and_eq_true,decide_eq_true_eq] at hc
  have c:=C1p p b (out++[U1 3 (-(p.to_.col - p.frm.col))]) (fun e a=>by
   rcases List.mem_append.1 a with a | a
   ·grind
   ·rw [List.mem_singleton.1 a];exact (B8f Z opx).2)
  grind
 | false=>grind[C1p]
theorem D4o {out:List jz} (h:∀ e ∈ out,mwA e) {x:jz} (b:mwA x):∀ e ∈ out++[x],mwA e:=by grind
theorem C1j (p:Pth) (a:0≤p.frm.col∧p.frm.col≤80∧0≤p.to_.col∧p.to_.col≤80) (out:List jz) (h:∀ e ∈ out,mwA e):(∀ e ∈ J4 p out,mwA e)∧(J4 p out).length≤out.length+3:=by
 unfold J4 B5
 cases hq:decide ((p.to_.col - p.frm.col)<0) with
 | true =>
  have b:=C2d p a (out++[W5 3 (-(p.to_.col - p.frm.col))]) (D4o h (C4i (by grind)))
  grind
 | false=>grind[C2d]
theorem C1o (p:Pth) (b:0≤p.frm.col∧p.frm.col≤80∧0≤p.to_.col∧p.to_.col≤80) (out:List jz) (h:∀ e ∈ out,mwA e):(∀ e ∈ M3 p out,mwA e)∧(M3 p out).length≤out.length+5:=by
 have c:=D4o h (F0y (a:={ZZ with kind:=22,n:=p.to_.col+1}) ⟨rfl,show -1000≤p.to_.col+1 by omega,show p.to_.col+1≤1000 by omega,show (-1000:Int)≤0 by omega,show (0:Int)≤1000 by omega,ogf,fun h=>absurd (show (22:Int)=20 from h) ozw⟩)
 unfold M3 B5
 cases hq:decide ((0:Int)<(p.to_.col - p.frm.col)) with
 | true =>
  have d:=C1j p b _ (D4o c (C4i (n:=2) (m:=p.to_.col - p.frm.col) (by grind)))
  grind
 | false=>exact ⟨(C1j p b _ c).1,by have:=(C1j p b _ c).2;grind⟩
theorem D1d {p:Pth} {r:List jz} (hr:K0 p=r) (c:0≤p.frm.col∧p.frm.col≤80∧0≤p.to_.col∧p.to_.col≤80):(∀ e ∈ r,mwA e)∧r.length≤6:=by
 subst hr;unfold K0
 cases decide ((p.to_.col - p.frm.col)=0) with
 | true=>exact C1o p c ([[]]:List jz) (fun e b=>by rw [List.mem_singleton.1 b];exact ⟨Nat.le_of_ble_eq_true Z,fun a d=>by cases d⟩)
 | false=>exact ⟨(C1o p c [] (fun e b=>by cases b)).1,Nat.le_trans (C1o p c [] (fun e b=>by cases b)).2 oom⟩
theorem C3m {p:Pth} {R:List jz} (hR:K0 p=R) (hb:0≤p.frm.col∧p.frm.col≤80∧0≤p.to_.col∧p.to_.col≤80:=by exact bW):cM prog 99 [ag (Q1 p)] [] [] ({t:VR×List Slc // bT 1 R.length t.1∧B4 t.2 R}) (fun x=>.slice (va x.1.1.q) R.length x.1.1.k) (fun x=>((vo F0 31 x.1.1 x.1.2)++([]))) (fun x=>[D8 A2 x.1.2 R]):=by
 refine cD Tryz.func99 fun X hX hr hD=>?_
 rw[K0]at hR
 refine bS Z (cI 2 [] (fun b1=>[(1,pt _ 0)]) (fun _=>(Q1 p)) 137 fun b1=>(ie (bS Z (pl2 6 [0,0] 7 10 Z (ix Z L8 (bP 1 3 Z (ie (bS Z (bP 1 4 Z ?_)))))))))
 refine ie (A7i (un fun out=>un fun a8 b=>(M3 p out=R∧bT 1 out.length a8∧B4 b out∧out.length≤1,[(1,pt b1 0),(3,iv (p.to_.col - p.frm.col)),(4,.slice (va a8.q) out.length a8.k)],(bx b1 (Q1 p) 137::((vo F0 31 a8 b)++([]))),[D8 A2 b out])) ?_ ?_)
 ·refine bS Z (bP 2 13 Z (ie ?_))
  refine cK Z hR ?_ ?_<;>clear hR<;>intro hR h2 cs
  ·refine A0 4 Z (bP 1 14 Z (it Z (B0 (c:=F0) (xs:=[⟨none,0,0⟩]) A7m Z Z Z oki) fun b3=>?_))
   have al:B4 ([⟨none,0,0⟩]:List Slc) ([([]:jz)]:List jz):=(B4.cons ⟨ooy,ofc,ofc⟩ B4.none)
   refine D4 (q:=D8 A2 [⟨none,0,0⟩] _) (M8 B3l I5) (D4 (q:=D8 A2 _ _) I5 ?_)
   have c5:B4 (([]:List Slc)++([⟨none,0,0⟩]:List Slc)) (([]:List jz)++([([]:jz)]:List jz)):=B4.append B4.none al
   refine it Z (K5 (r:=VR.nil) (rs:=([]:List Slc)) (xss:=([]:List jz)) (pre:=[bx b1 (Q1 p) 137]) (post:=[]) B5b Z Z Z Z Z Z Z Z Z (A5 2 Z) (A5 0 Z) (A5 1 Z) B4.none al bT.nil oso oso) fun ⟨r5,be⟩=>?_
   have:([]:List jz).length=0:=rfl
   have:(([]:List jz)++([([]:jz)]:List jz)).length=([]:List jz).length+1:=List.length_append
   refine bP 1 4 Z (A1 ?_)
   exact S6 (_,_,_) ⟨hR,be,c5,ozq⟩ bU c9
  refine A4 (Y9 (I8 [_,_] [1,0] 2 Z ozw Z [[_],vo F0 31 VR.nil []] Z opv) ?_)
  exact S6 (_,_,_) ⟨hR,bT.nil,B4.none,ozq⟩ bU c9
 rintro ⟨out,a8,b⟩
 rintro ⟨hR,az,a2,hj⟩
 rw[M3]at hR
 refine bS Z (pl2 4 [0] 17 20 Z (ix Z (B1 Z Z Z Z opx) (bY 1 4 [] [(22,ag (A2 ({ZZ with kind:=22,n:=(p.to_.col+1)})))] (it Z (B0 (c:=A2) (xs:=[{ZZ with kind:=22,n:=(p.to_.col+1)}]) N3 Z Z Z oki) fun b8=>?_))))
 have:([{ZZ with kind:=22,n:=(p.to_.col+1)}]:jz).length=1:=rfl
 refine it Z (B0 (c:=F0) (xs:=[⟨some ⟨b8,0,none⟩,1,1⟩]) A7m Z Z Z oki) fun b9=>?_
 have ac:B4 ([⟨some ⟨b8,0,none⟩,1,1⟩]:List Slc) ([([{ZZ with kind:=22,n:=(p.to_.col+1)}]:jz)]:List jz):=(B4.cons ⟨ooy,ofc,ofc⟩ B4.none)
 refine D4 (q:=D8 _ [⟨some ⟨b8,0,none⟩,1,1⟩] _) (M8 (A5 1 Z) I5) ?_
 have b6:B4 (b++([⟨some ⟨b8,0,none⟩,1,1⟩]:List Slc)) (out++([([{ZZ with kind:=22,n:=(p.to_.col+1)}]:jz)]:List jz)):=B4.append a2 ac
 refine it Z (K5 (r:=a8) (rs:=b) (xss:=out) (pre:=[bx b1 (Q1 p) 137]) (post:=[]) B5b Z Z Z Z Z Z Z Z Z (A5 1 Z) (A5 3 Z) (A5 0 Z) a2 ac az oso oso) fun ⟨bp,an⟩=>?_
 have:(out++([([{ZZ with kind:=22,n:=(p.to_.col+1)}]:jz)]:List jz)).length=out.length+1:=List.length_append
 refine bP 1 4 Z (ie (A7i (un fun i=>un fun u e=>(J4 p i=R∧bT 1 i.length u∧B4 e i∧i.length≤3,[(1,pt b1 0),(3,iv (p.to_.col - p.frm.col)),(4,.slice (va u.q) i.length u.k)],(bx b1 (Q1 p) 137::((vo F0 31 u e)++([]))),[D8 A2 (b++[⟨some ⟨b8,0,none⟩,1,1⟩]) (out++([([{ZZ with kind:=22,n:=(p.to_.col+1)}]:jz)])),D8 A2 [⟨some ⟨b8,0,none⟩,1,1⟩] ([([{ZZ with kind:=22,n:=(p.to_.col+1)}]:jz)]),sl F0 (some ⟨b9,0,none⟩) [⟨some ⟨b8,0,none⟩,1,1⟩],sl A2 (some ⟨b8,0,none⟩) [{ZZ with kind:=22,n:=(p.to_.col+1)}],D8 A2 b out,D8 A2 e i])) ?_ ?_))
 ·refine bS Z (bP 2 27 Z (ie ?_))
  refine cK Z hR ?_ ?_<;>clear hR<;>intro hR ck cb
  ·refine A0 6 Z (cF 2 28 29 Z ?_)
   obtain ⟨y1,bg,hR⟩:=C3 hR
   refine zc Z (B1e bg) fun ⟨⟨ao,ap⟩,bl⟩=>?_
   obtain ⟨ce,cj⟩:=bl
   refine it Z (B0 (c:=F0) (xs:=[⟨ao,y1.length,ap⟩]) A7m Z Z Z oki) fun cm=>?_
   have aj:B4 ([⟨ao,y1.length,ap⟩]:List Slc) ([y1]:List jz):=(B4.cons ⟨ooy,ofc,ofc⟩ B4.none)
   refine D4 (q:=D8 _ [⟨ao,y1.length,ap⟩] _) (M8 (A5 1 Z) I5) ?_
   have bo:B4 ((b++([⟨some ⟨b8,0,none⟩,1,1⟩]:List Slc))++([⟨ao,y1.length,ap⟩]:List Slc)) ((out++([([{ZZ with kind:=22,n:=(p.to_.col+1)}]:jz)]:List jz))++([y1]:List jz)):=B4.append b6 aj
   refine it Z (K5 (r:=bp) (rs:=(b++([⟨some ⟨b8,0,none⟩,1,1⟩]:List Slc))) (xss:=(out++([([{ZZ with kind:=22,n:=(p.to_.col+1)}]:jz)]:List jz))) (pre:=[bx b1 (Q1 p) 137]) (post:=[]) B5b Z Z Z Z Z Z Z Z Z (A5 1 Z) (A5 3 Z) (A5 0 Z) b6 aj an oso oso) fun ⟨c6,b2⟩=>?_
   have:((out++([([{ZZ with kind:=22,n:=(p.to_.col+1)}]:jz)]:List jz))++([y1]:List jz)).length=(out++([([{ZZ with kind:=22,n:=(p.to_.col+1)}]:jz)]:List jz)).length+1:=List.length_append
   refine bP 1 4 Z (A1 ?_)
   exact S6 (_,_,_) ⟨hR,b2,bo,ozq⟩ bU c9
  refine A4 ?_
  exact S6 (_,_,_) ⟨hR,an,b6,ozq⟩ bU c9
 rintro ⟨i,u,e⟩
 rintro ⟨hR,a9,m,hj⟩
 rw[J4]at hR
 refine A7i (un fun j=>un fun s d=>(M5 p j=R∧bT 1 j.length s∧B4 d j∧j.length≤4,[(1,pt b1 0),(3,iv (p.to_.col - p.frm.col)),(4,.slice (va s.q) j.length s.k)],(bx b1 (Q1 p) 137::((vo F0 31 s d)++([]))),[D8 A2 (b++[⟨some ⟨b8,0,none⟩,1,1⟩]) (out++([([{ZZ with kind:=22,n:=(p.to_.col+1)}]:jz)])),D8 A2 [⟨some ⟨b8,0,none⟩,1,1⟩] ([([{ZZ with kind:=22,n:=(p.to_.col+1)}]:jz)]),sl F0 (some ⟨b9,0,none⟩) [⟨some ⟨b8,0,none⟩,1,1⟩],sl A2 (some ⟨b8,0,none⟩) [{ZZ with kind:=22,n:=(p.to_.col+1)}],D8 A2 b out,D8 A2 e i,D8 A2 d j])) ?_ ?_
 ·refine bS Z (bP 2 34 Z (ie ?_))
  refine cK Z hR ?_ ?_<;>clear hR<;>intro hR cr ci
  ·refine A0 7 Z (cF 2 35 36 Z (ix Z (C5m Z Z Z opx) ?_))
   obtain ⟨y4,bi,hR⟩:=C3 hR
   refine zc Z (B1e bi) fun ⟨⟨au,aw⟩,br⟩=>?_
   obtain ⟨c8,ch⟩:=br
   refine it Z (B0 (c:=F0) (xs:=[⟨au,y4.length,aw⟩]) A7m Z Z Z oki) fun ct=>?_
   have af:B4 ([⟨au,y4.length,aw⟩]:List Slc) ([y4]:List jz):=(B4.cons ⟨ooy,ofc,ofc⟩ B4.none)
   refine D4 (q:=D8 _ [⟨au,y4.length,aw⟩] _) (M8 (A5 1 Z) I5) ?_
   have bj:B4 (e++([⟨au,y4.length,aw⟩]:List Slc)) (i++([y4]:List jz)):=B4.append m af
   refine it Z (K5 (r:=u) (rs:=e) (xss:=i) (pre:=[bx b1 (Q1 p) 137]) (post:=[]) B5b Z Z Z Z Z Z Z Z Z (A5 1 Z) (A5 8 Z) (A5 0 Z) m af a9 oso oso) fun ⟨bw,b4⟩=>?_
   have:(i++([y4]:List jz)).length=i.length+1:=List.length_append
   refine bP 1 4 Z (A1 ?_)
   exact S6 (_,_,_) ⟨hR,b4,bj,ozq⟩ bU c9
  refine A4 ?_
  exact S6 (i,u,e) ⟨hR,a9,m,ozq⟩ bU c9
 rintro ⟨j,s,d⟩
 rintro ⟨hR,a6,o,hj⟩
 rw[M5]at hR
 refine A7i (un fun h=>un fun l a=>(J2 p h=R∧bT 1 h.length l∧B4 a h∧h.length≤5,[(1,pt b1 0),(4,.slice (va l.q) h.length l.k)],(bx b1 (Q1 p) 137::((vo F0 31 l a)++([]))),[D8 A2 (b++[⟨some ⟨b8,0,none⟩,1,1⟩]) (out++([([{ZZ with kind:=22,n:=(p.to_.col+1)}]:jz)])),D8 A2 [⟨some ⟨b8,0,none⟩,1,1⟩] ([([{ZZ with kind:=22,n:=(p.to_.col+1)}]:jz)]),sl F0 (some ⟨b9,0,none⟩) [⟨some ⟨b8,0,none⟩,1,1⟩],sl A2 (some ⟨b8,0,none⟩) [{ZZ with kind:=22,n:=(p.to_.col+1)}],D8 A2 b out,D8 A2 e i,D8 A2 d j,D8 A2 a h])) ?_ ?_
 ·refine bS Z (bP 3 43 Z ?_)
  refine zid 4 0 43 47 (decide ((-(p.to_.col - p.frm.col))≤4)) (fun bz cc=>?_) ?_
  ·refine bP 1 44 Z (ix Z (C5m Z Z Z opx) (bP 2 47 Z ?_))
   exact A1 (I1 4 43 _ bz A7.refl bU Z Z Z Z Z)
  refine ie ?_
  refine zja Z hR ?_ ?_<;>clear hR<;>intro hR cw cd
  ·refine A0 7 Z (cF 2 48 49 Z (ix Z (C5m Z Z Z opx) ?_))
   obtain ⟨y0,bd,hR⟩:=C3 hR
   refine zc Z (B4v bd) fun ⟨w,ah⟩=>?_
   have a3:=B8f bd opx
   have:=a3.1;try rw [bd] at this
   have:=bT.cap ah
   have:=bT.le ah
   refine P2 [_] ((vo _ _ s d)++([])) ah oll (it Z (B0 (c:=F0) (xs:=[⟨va w.q,y0.length,w.k⟩]) A7m Z Z Z oki) fun cv=>?_)
   have ad:B4 ([⟨va w.q,y0.length,w.k⟩]:List Slc) ([y0]:List jz):=(B4.cons ⟨ooy,ofc,ofc⟩ B4.none)
   refine D4 (q:=D8 _ [⟨va w.q,y0.length,w.k⟩] _) (M8 (A5 1 Z) I5) ?_
   have bk:B4 (d++([⟨va w.q,y0.length,w.k⟩]:List Slc)) (j++([y0]:List jz)):=B4.append o ad
   refine it Z (K5 (r:=s) (rs:=d) (xss:=j) (pre:=[bx b1 (Q1 p) 137]) (post:=[]) B5b Z Z Z Z Z Z Z Z Z (A5 1 Z) (A5 9 Z) (A5 0 Z) o ad a6 oso oso) fun ⟨c4,ay⟩=>?_
   have:(j++([y0]:List jz)).length=j.length+1:=List.length_append
   refine bP 1 4 Z (A1 ?_)
   exact S6 (_,_,_) ⟨hR,ay,bk,ozq⟩ bU c9
  refine A4 ?_
  exact S6 (j,s,d) ⟨hR,a6,o,ozq⟩ bU c9
 rintro ⟨h,l,a⟩
 rintro ⟨hR,a7,g,hj⟩
 rw[J2]at hR
 refine A3 (bS Z (cB 4 [0] 57 Z (ie ?_)))
 refine cK Z hR ?_ ?_<;>clear hR<;>intro hR cq cf
 ·refine bS Z (bP 1 58 Z ?_)
  obtain ⟨y7,bb,hR⟩:=C3 hR
  refine zc Z (B4v bb) fun ⟨a0,ai⟩=>?_
  have y:=B8f bb opx
  have:=y.1;try rw [bb] at this
  have:=bT.cap ai
  have:=bT.le ai
  refine P2 [_] ((vo _ _ l a)++([])) ai oll (it Z (B0 (c:=F0) (xs:=[⟨va a0.q,y7.length,a0.k⟩]) A7m Z Z Z oki) fun cp=>?_)
  have aa:B4 ([⟨va a0.q,y7.length,a0.k⟩]:List Slc) ([y7]:List jz):=(B4.cons ⟨ooy,ofc,ofc⟩ B4.none)
  refine D4 (q:=D8 _ [⟨va a0.q,y7.length,a0.k⟩] _) (M8 (A5 1 Z) I5) ?_
  have bm:B4 (a++([⟨va a0.q,y7.length,a0.k⟩]:List Slc)) (h++([y7]:List jz)):=B4.append g aa
  refine it Z (K5 (r:=l) (rs:=a) (xss:=h) (pre:=[bx b1 (Q1 p) 137]) (post:=[]) B5b Z Z Z Z Z Z Z Z Z (A5 1 Z) (A5 10 Z) (A5 0 Z) g aa a7 oso oso) fun ⟨c3,b5⟩=>(bP 1 2 Z ?_)
  subst hR
  refine ie (A8 ?_)
  exact ci ⟨(_,_),⟨b5,bm⟩⟩
 refine A4 (nx ?_)
 refine zS [(10,[0]),(8,[1])] ?_
 refine hq2 [0,2,3] 62 65 Z ?_
 refine gl 4 [0] Z (B8 (v:=iv _) cE Z Z 0) ?_
 obtain ⟨y5,bc,hR⟩:=C3 hR
 refine gc 1 [0,1] Z (B4v bc) fun ⟨c7,b0⟩=>?_
 have:=bT.le b0
 have a1:=B8f bc opx
 have:=a1.1;try rw [bc] at this
 obtain ⟨y8,bn,hR⟩:=C3 hR
 refine gc 5 [0,1] Z (B1e bn) fun ⟨⟨cl,co⟩,bh⟩=>?_
 obtain ⟨ca,cg⟩:=bh
 have:y8.length=1:=by rw [← bn];rfl
 refine go 6 [0,1] Z (Y6 (f:=A2) (r:=c7) (xs:=y5) (ys:=y8) (pre:=[bx b1 (Q1 p) 137]) (post:=((vo F0 31 l a)++([]))) A0c jJ jJ Z Z Z Z Z Z Z Z (A5 0 Z) b0 oso oso) fun ⟨z,ae⟩=>?_
 have:=bT.cap ae
 have:=bT.le ae
 refine gS _ _ [0,1] ae oll ?_
 refine go 7 [0,1] Z (B0 (c:=F0) (xs:=[⟨va z.q,(y5++y8).length,z.k⟩]) A7m Z Z Z oki) fun cn=>?_
 have ab:B4 ([⟨va z.q,(y5++y8).length,z.k⟩]:List Slc) ([(y5++y8)]:List jz):=(B4.cons ⟨ooy,ofc,ofc⟩ B4.none)
 refine C9w (q:=D8 _ [⟨va z.q,(y5++y8).length,z.k⟩] _) (M8 (A5 1 Z) I5) ?_
 have bu:B4 (a++([⟨va z.q,(y5++y8).length,z.k⟩]:List Slc)) (h++([(y5++y8)]:List jz)):=B4.append g ab
 refine go 8 [0] Z (K5 (r:=l) (rs:=a) (xss:=h) (pre:=[bx b1 (Q1 p) 137]) (post:=[]) B5b Z Z Z Z Z Z Z Z Z (A5 1 Z) (A5 11 Z) (A5 0 Z) g ab a7 oso oso) fun ⟨c0,ba⟩=>?_
 refine hq1 [9] 2 Z ?_
 refine ge ?_
 subst hR
 refine A8 ?_
 exact ci ⟨(_,_),⟨ba,bu⟩⟩
def H6 (c0:Pth) (b:jz) (a:List jz):List jz→Nat→List jz
 | [],t16=>a
 | hd_l2::tl_l2,t16=>(bif ((decide (((b++hd_l2).length:Int)=0))&&c0.frm.wrap) then H6 c0 b a tl_l2 (t16+1) else ((b++hd_l2)::H6 c0 b a tl_l2 (t16+1)))
def F4 (c0:Pth):List jz→List jz
 | []=>(([{ZZ with kind:=19,n:=(c0.to_.row+1),m:=(c0.to_.col+1)}]:jz)::[])
 | el::rest=>(B5 (K0 c0) fun (a:List jz)=>H6 c0 el (F4 c0 rest) a 0)
def H9 (c0:Pth):List jz :=
 F4 c0 (H7 (B9 c0))
theorem D5y (c0:Pth) (g:jz) (f:mwA g) (ag:List jz) (i:∀ e ∈ ag,C4s e):∀ (l:List jz) (d:∀ e ∈ l,mwA e) (b:Nat),(∀ e ∈ H6 c0 g ag l b,C4s e)∧(H6 c0 g ag l b).length≤l.length+ag.length
 | [],_,b=>⟨i,by simp[H6]⟩
 | x::l,d,b=>by
  have j:=D5y c0 g f ag i l (fun e c=>d e (List.mem_cons_of_mem _ c)) (b+1)
  rw [H6]
  cases ((decide (((g++x).length:Int)=0))&&c0.frm.wrap) with
  | true=>exact ⟨j.1,by have:=j.2;simp only [cond_true,List.length_cons];omega⟩
  | false =>
   refine ⟨fun e c=>?_,by have:=j.2;simp only [cond_false,List.length_cons];omega⟩
   rcases List.mem_cons.1 c with c | c
   ·rw [c]
    have k:mwA x:=d x jU
    exact ⟨by rw [List.length_append];have:=f.1;have:=k.1;omega,fun a h=>by rcases List.mem_append.1 h with h | h;exact f.2 a h;exact k.2 a h⟩
   ·exact j.1 e c
theorem D6i (c0:Pth) (f:(0≤c0.frm.row∧c0.frm.row≤40∧0≤c0.to_.row∧c0.to_.row≤40)∧(0≤c0.frm.col∧c0.frm.col≤80∧0≤c0.to_.col∧c0.to_.col≤80)):∀ (l:List jz),(∀ e ∈ l,mwA e)→(∀ e ∈ F4 c0 l,C4s e)∧(F4 c0 l).length≤6 * l.length+1
 | [],_=>⟨fun e b=>by
   rw [F4] at b
   rw [List.mem_singleton.1 b];exact ⟨Nat.le_of_ble_eq_true Z,fun a i=>by rw [List.mem_singleton.1 i];exact ⟨rfl,show -1000≤c0.to_.row+1 by omega,show c0.to_.row+1≤1000 by omega,show -1000≤c0.to_.col+1 by omega,show c0.to_.col+1≤1000 by omega,ogf,fun h=>absurd (show (19:Int)=20 from h) ozw⟩⟩,by simp[F4]⟩
 | el::rest,h=>by
  have d:=D6i c0 f rest (fun e b=>h e (List.mem_cons_of_mem _ b))
  have c:=D1d (p:=c0) Z f.2
  have g:=D5y c0 el (h el jU) _ d.1 (K0 c0) c.1 0
  rw [F4];unfold B5
  exact ⟨g.1,by have:=g.2;have:=d.2;have:=c.2;simp only [List.length_cons];omega⟩
theorem C9k {c0:Pth} (hb:(0≤c0.frm.row∧c0.frm.row≤40∧0≤c0.to_.row∧c0.to_.row≤40)∧(0≤c0.frm.col∧c0.frm.col≤80∧0≤c0.to_.col∧c0.to_.col≤80)):(∀ e ∈ H9 c0,C4s e)∧(H9 c0).length≤13:=by
 have h:=D6i c0 hb (H7 c0) (D5d c0 hb.1)
 have:=E4r c0
 exact ⟨h.1,by have:=h.2;show (F4 c0 (H7 c0)).length≤13;omega⟩
theorem C4y (c0:Pth) (j:Addr) (hb:(0≤c0.frm.row∧c0.frm.row≤40∧0≤c0.to_.row∧c0.to_.row≤40)∧(0≤c0.frm.col∧c0.frm.col≤80∧0≤c0.to_.col∧c0.to_.col≤80)) (R:List jz) (hR:H9 c0=R):C0w prog 98 [pa j] [] [at_ j (Q1 c0)] A2 R:=by
 refine C7k [] (n:=53) Tryz.func98 Z oki Z Z (fun l=>[(0,.func (.yield l) #[] #[]),(1,pa j)]) (fun l=>⟨rfl,rfl,trivial⟩) fun X l I Ix L Φ hX hr hD hI0 hY=>?_
 rw[H9]at hR
 refine k_ ?_
 refine D7x 1 0 [] (fun h=>[(2,pt h 0)]) (fun h=>(bx h [.func (.yield l) #[] #[]] 184::(L++([])))) (fun h=>(ie (bS Z (ix Z (J0 (us:=Q1 c0) G0g Z Z (A5 0 Z) Z) ?_))))
 refine D7x 3 0 [0] (fun i=>[(3,pt i 0)]) (fun i=>(bx i [.func (.func 99) #[ag (Q1 c0)] #[]] 185::bx h [.func (.yield l) #[] #[]] 184::(L++([])))) (fun i=>?_)
 refine k_ ?_
 refine ix Z (J0 (us:=Q1 c0) G0g Z Z (A5 0 Z) Z) (zcm (C7p (p:=c0) Z) bX fun b3=>?_)
 refine ie (k_ ?_)
 refine E0l (cc:=A2) (xs:=(H7 (B9 c0))) (σ:=List jz×Fen.Own×List Pers) hr Z (C4t (B9 c0) b3 (by first|exact hb.1|(dsimp only;omega)) _ Z) (A7.cons (A5 0 Z) bX) Z Z (fun t x=>F4 c0 t=x.1∧I x.1 x.2.1 x.2.2∧(∀ e ∈ t,mwA e)) (fun c x=>c=.ret∧Ix x.2.1 x.2.2) (fun x=>(bx i [.func (.func 99) #[ag (Q1 c0)] #[]] 185::bx h [.func (.yield l) #[] #[]] 184::(x.2.1++([])))) (fun x=>(at_ b3 (Q1 (B9 c0))::at_ j (Q1 c0)::x.2.2)) (R,L,Φ) (by exact ⟨hR,hI0,(by exact D5d c0 hb.1)⟩) bU c9 ?_ ?_ ?_
 ·rintro el rest ⟨R_,Lt,Ft⟩ ak b7 bi be hI Y Y' K' bl hK
  try dsimp only at hI
  obtain ⟨hR,z,ac⟩:=hI
  rw[F4]at hR
  refine k_ ?_
  refine A1 (hK _ _ _ (k_ ?_))
  obtain ⟨y5,ah,hR⟩:=C3 hR
  refine it Z (N9 (L2:=(bx i [.func (.func 99) #[ag (Q1 c0)] #[]] 185::bx h [.func (.yield l) #[] #[]] 184::(Lt++([])))) (C3m (p:=c0) ah (by first|exact hb.2|(dsimp only;omega))) Z Z Z Z Z bX jK (fun ⟨⟨r7,b⟩,y⟩=>(bx i [.func (.func 99) #[ag (Q1 c0)] #[]] 185::bx h [.func (.yield l) #[] #[]] 184::(Lt++((vo F0 31 r7 b)++([]))))) (fun ⟨⟨r7,b⟩,y⟩=>I8 [vo F0 31 r7 b,[bx i [.func (.func 99) #[ag (Q1 c0)] #[]] 185],[bx h [.func (.yield l) #[] #[]] 184],Lt] [1,2,3,0] 4 Z ozw opv [[bx i [.func (.func 99) #[ag (Q1 c0)] #[]] 185],[bx h [.func (.yield l) #[] #[]] 184],Lt,vo F0 31 r7 b] Z opv)) fun ⟨⟨r7,b⟩,y⟩=>?_
  try dsimp only at y
  obtain ⟨an,g⟩:=y
  have:=bT.le an
  have:=bT.cap an
  have:=g.1
  have ar:=D1d ah (by first|exact hb.2|(dsimp only;omega))
  have:=ar.2;try rw [ah] at this
  refine P2 (bx i [.func (.func 99) #[ag (Q1 c0)] #[]] 185::bx h [.func (.yield l) #[] #[]] 184::(Lt++([]))) [] (T:=31) (c:=F0) (r:=r7) (xs:=b) (bT.cast an (by rw [g.1])) oll (B8g (L':=(bx i [.func (.func 99) #[ag (Q1 c0)] #[]] 185::bx h [.func (.yield l) #[] #[]] 184::(Lt++([])))) opv (k_ ?_))
  refine ie (A9 (A1y (un fun (a:Nat)=>un fun (R_1:List jz)=>un fun (Lt1:Fen.Own) (Ft1:List Pers)=>(a≤y5.length∧H6 c0 el (F4 c0 rest) (y5.drop a) a=R_1∧I R_1 Lt1 Ft1,[(1,pa j),(2,pt h 0),(3,pt i 0),(4,.slice ak el.length b7),(11,.func (.func 137) #[] #[pa b3]),(14,.slice (va r7.q) y5.length r7.k),(15,iv (y5.length:Int)),(16,iv (a:Int))],(bx i [.func (.func 99) #[ag (Q1 c0)] #[]] 185::bx h [.func (.yield l) #[] #[]] 184::(Lt1++([]))),(sl F0 (va r7.q) b::D8 A2 b y5::sl A2 ak el::at_ b3 (Q1 (B9 c0))::at_ j (Q1 c0)::Ft1),y5.length - a)) (0,R_,Lt,Ft) ⟨opx,hR,z⟩ bU c9 ?_))
  rintro ⟨a,R_1,Lt1,Ft1⟩ ⟨b9,hR,s⟩
  have bb:=(ac el jU).1
  have b8:=D5i ar.1 a
  refine k_ ?_
  refine ie (A3 (G3 Z (fun a8=>?_) (fun a8=>?_)))
  ·have a6:=bV a8
   rw [A1a [] (show a<y5.length by omega)] at hR;rw[H6]at hR
   refine k_ ?_
   refine H8 0 Z (by have:=g.1;omega) fun bc a3=>(D4 (Q6 (k:=a) (d:=jY) g 1 Z (by have:=g.1;omega)) ?_)
   have:=Q9 g (k:=a) (d:=(⟨none,0,0⟩:Slc)) (by have:=g.1;omega)
   refine ix Z (E7 A7m Z Z a3 Z a) (ix Z (G1 (B6 (v:=.slice ((b.getD a jY).q) ((b.getD a jY).n) ((b.getD a jY).k)) (us:=[.slice ((b.getD a jY).q) ((b.getD a jY).n) ((b.getD a jY).k)]) C2z Z Z (F8 (c:=F0) (sz:=1) a3 jJ 1 Z (gd jY (by have:=g.1;omega))) Z) (M2 g (by have:=g.1;omega))) (k_ ?_))
   refine ie (k_ ?_)
   refine ix Z (B5n (n':=el.length) N3 Z Z el.length el.length (A1l Z Z) (A1l Z Z) opx opx (by first|rfl|omega) Z) (k_ ?_)
   refine it Z (C3h (f:=A2) (xs:=el) (ys:=(y5.getD a [])) A0c jJ jJ Z Z Z Z Z Z opx opx odv (A5 3 Z) (A5 0 Z) oso oso) fun ⟨⟨am,ay⟩,b6⟩=>?_
   have:=@List.length_append _ el (y5.getD a [])
   refine k_ ?_
   refine ie (k_ ?_)
   refine zid 4 0 31 35 c0.frm.wrap (fun b4 ba=>?_) ?_
   ·refine bP 2 33 Z (ix Z (B6 ty4 Z Z (U8 (U0 (A5 6 Z) (ws:=F5 c0.frm) 3 Z) (ws:=[bv c0.frm.wrap]) 2 1 Z) Z) (k_ ?_))
    exact I1 4 31 35 b4 A7.refl bU Z Z Z Z Z
   refine ie ?_
   refine zjb Z hR ?_ ?_<;>clear hR<;>intro hR aw
   ·have au:=bV aw
    refine k_ ?_
    refine ix Z B1 (k_ ?_)
    exact A1 (Z0 (z1:=(a,R_1,Lt1,Ft1)) (a+1,R_1,Lt1,Ft1) ⟨opx,hR,s⟩ olr bU (A7.con1 (A5 2 Z) (A7.con1 (A5 3 Z) (A7.con1 (A5 4 Z) (A7.con1 (A5 5 Z) (A7.con1 (A5 6 Z) (A7.dropT 7 Z)))))))
   have au:=bV aw
   refine k_ ?_
   obtain ⟨R21,hR,w⟩:=C2v hR;rw [w] at s
   refine it Z (A6x (L2:=[bx i [.func (.func 99) #[ag (Q1 c0)] #[]] 185,bx h [.func (.yield l) #[] #[]] 184]) (hY (el++(y5.getD a [])) R21 _ _ am ay ofc ofc s) Z Z Z Z (A7.con1 (A5 0 Z) (A7.dropT 7 Z)) (I8 [[bx i [.func (.func 99) #[ag (Q1 c0)] #[]] 185],[bx h [.func (.yield l) #[] #[]] 184],Lt1] [2,0,1] 3 Z ozw Z [Lt1,[bx i [.func (.func 99) #[ag (Q1 c0)] #[]] 185],[bx h [.func (.yield l) #[] #[]] 184]] Z ooa)) fun ⟨⟨b0,L23,Φ24⟩,o⟩=>(B1j (A7.yield [sl A2 am (el++(y5.getD a [])),sl A2 ((b.getD a (⟨none,0,0⟩:Slc)).q) (y5.getD a []),sl F0 (va r7.q) b,D8 A2 b y5,sl A2 ak el,at_ b3 (Q1 (B9 c0)),at_ j (Q1 c0)]) (k_ ?_))
   refine ie (G3 Z (fun a9=>?_) (fun a9=>?_))
   ·have a2:b0=false:=by simpa using a9
    rw [a2] at o;try simp only [if_true,if_false,Bool.false_eq_true] at o
    refine A8 (Y9 (I8 [L23,[bx i [.func (.func 99) #[ag (Q1 c0)] #[]] 185],[bx h [.func (.yield l) #[] #[]] 184]] [1,2,0] 3 Z ozw Z [[bx i [.func (.func 99) #[ag (Q1 c0)] #[]] 185],[bx h [.func (.yield l) #[] #[]] 184],L23] Z opv) (G0z (I:=fun t x=>F4 c0 t=x.1∧I x.1 x.2.1 x.2.2∧(∀ e ∈ t,mwA e)) (Jx:=fun c x=>c=.ret∧Ix x.2.1 x.2.2) (Lk:=fun x=>(bx i [.func (.func 99) #[ag (Q1 c0)] #[]] 185::bx h [.func (.yield l) #[] #[]] 184::(x.2.1++([])))) (Φk:=fun x=>(at_ b3 (Q1 (B9 c0))::at_ j (Q1 c0)::x.2.2)) (rest:=rest) (R21,L23,Φ24) (by exact ⟨rfl,o⟩) bU ?_))
    exact (A7.con1 (A5 5 Z) (A7.con1 (A5 6 Z) (A7.dropT 7 Z)))
   ·have a2:b0=true:=by simpa using a9
    rw [a2] at o;try simp only [if_true,if_false,Bool.false_eq_true] at o
    refine k_ ?_
    refine ix Z B1 (k_ ?_)
    exact A1 (Y9 (I8 [L23,[bx i [.func (.func 99) #[ag (Q1 c0)] #[]] 185],[bx h [.func (.yield l) #[] #[]] 184]] [1,2,0] 3 Z ozw Z [[bx i [.func (.func 99) #[ag (Q1 c0)] #[]] 185],[bx h [.func (.yield l) #[] #[]] 184],L23] Z opv) (Z0 (z1:=(a,R_1,Lt1,Ft1)) (a+1,R21,L23,Φ24) ⟨opx,hR,o⟩ olr bU (A7.con1 (A5 2 Z) (A7.con1 (A5 3 Z) (A7.con1 (A5 4 Z) (A7.con1 (A5 5 Z) (A7.con1 (A5 6 Z) (A7.dropT 7 Z))))))))
  have a6:=bV a8
  rw [A1b a6] at hR;rw[H6]at hR
  refine F1 (B2c (I:=fun t x=>F4 c0 t=x.1∧I x.1 x.2.1 x.2.2∧(∀ e ∈ t,mwA e)) (Jx:=fun c x=>c=.ret∧Ix x.2.1 x.2.2) (Lk:=fun x=>(bx i [.func (.func 99) #[ag (Q1 c0)] #[]] 185::bx h [.func (.yield l) #[] #[]] 184::(x.2.1++([])))) (Φk:=fun x=>(at_ b3 (Q1 (B9 c0))::at_ j (Q1 c0)::x.2.2)) (rest:=rest) (R_1,Lt1,Ft1) (by exact ⟨hR,s,(by exact fun e he=>ac e (List.mem_cons_of_mem _ he))⟩) bU ?_)
  exact (A7.con1 (A5 3 Z) (A7.con1 (A5 4 Z) (A7.dropT 5 Z)))
 ·rintro bj ⟨R_,Lt,Ft⟩ aq hI
  try dsimp only at hI
  obtain ⟨hR,z,ac⟩:=hI
  rw[F4]at hR
  refine kc_ ?_
  refine bY 3 9 [1] [(41,.func (.yield l) #[] #[]),(43,pa (j.add 3))] ?_
  refine ix Z (B6 cE Z Z (U0 (U8 (A5 1 Z) (ws:=A0n c0.to_) 3 2 Z) (ws:=[iv c0.to_.row]) 1 Z) Z) (ix Z B1 (k_ ?_))
  refine ix Z (B6 cE Z Z (U8 (U8 (A5 1 Z) (ws:=A0n c0.to_) 3 2 Z) (ws:=[iv c0.to_.col]) 1 1 Z) Z) (ix Z B1 (bY 1 2 [] [(50,ag (A2 ({ZZ with kind:=19,n:=(c0.to_.row+1),m:=(c0.to_.col+1)})))] ?_))
  refine it Z (B0 (c:=A2) (xs:=([{ZZ with kind:=19,n:=(c0.to_.row+1),m:=(c0.to_.col+1)}]:List Act)) N3 Z Z Z oki) fun ap=>?_
  have:([{ZZ with kind:=19,n:=(c0.to_.row+1),m:=(c0.to_.col+1)}]:jz).length=1:=rfl
  obtain ⟨R30,hR,u⟩:=C2v hR;rw [u] at z
  refine it Z (A6x (L2:=[bx i [.func (.func 99) #[ag (Q1 c0)] #[]] 185,bx h [.func (.yield l) #[] #[]] 184]) (hY ([{ZZ with kind:=19,n:=(c0.to_.row+1),m:=(c0.to_.col+1)}]:List Act) R30 _ _ (some ⟨ap,0,none⟩) 1 ofc ofc z) Z Z Z Z (A7.con1 (A5 0 Z) (A7.dropT 3 Z)) (I8 [[bx i [.func (.func 99) #[ag (Q1 c0)] #[]] 185],[bx h [.func (.yield l) #[] #[]] 184],Lt] [2,0,1] 3 Z ozw Z [Lt,[bx i [.func (.func 99) #[ag (Q1 c0)] #[]] 185],[bx h [.func (.yield l) #[] #[]] 184]] Z ooa)) fun ⟨⟨b5,L32,Φ33⟩,a7⟩=>(B1j (A7.yield [sl A2 (some ⟨ap,0,none⟩) ([{ZZ with kind:=19,n:=(c0.to_.row+1),m:=(c0.to_.col+1)}]:List Act),at_ b3 (Q1 (B9 c0)),at_ j (Q1 c0)]) ?_)
  subst hR
  refine A1 ?_
  exact A0y Z ⟨hr,hD⟩ (by exact (P3.cons (show P3 X.D by rw [hD];exact P3.nil) aq)) (B3x Z) (L':=L32) (Φ':=Φ33) (by cases b5<;>first|exact .inr (by simpa using a7)|exact .inl (by simpa using a7)) (mcT [L32,[bx i [.func (.func 99) #[ag (Q1 c0)] #[]] 185],[bx h [.func (.yield l) #[] #[]] 184]] 0 rfl rfl) (A7.dropT 3 rfl)
 ·rintro bd _ ⟨R_,Lt,Ft⟩ az ⟨rfl,av⟩
  try dsimp only at av
  exact A8 (B6z Z ⟨hr,hD⟩ (by exact (P3.cons (show P3 X.D by rw [hD];exact P3.nil) az)) (B3x Z) (L':=Lt) (Φ':=Ft) (by exact .inr av) (mcT [[bx i [.func (.func 99) #[ag (Q1 c0)] #[]] 185],[bx h [.func (.yield l) #[] #[]] 184],Lt] 2 Z Z) (A7.dropT 2 Z))
def K9:List jz→jz→Int→(jz×Int)
 | [],ffoundway,ffoundcost=>(ffoundway,0)
 | el::rest,ffoundway,ffoundcost=>(B5 (X2 el) fun (a:List UInt8×Int)=>(bif ((!decide (a.2=0))||((decide ((0:Int)≤ffoundcost))&&(decide (ffoundcost≤(a.1.length:Int))))) then K9 rest ffoundway ffoundcost else K9 rest el (a.1.length:Int)))
def A3h (a:Int) (b:Int) (from_:Cur) (to_:Plc):jz×Int :=
 (bif (!decide ((K8 a b (⟨from_,to_⟩:Pth))=0)) then (([]:jz),(K8 a b (⟨from_,to_⟩:Pth))) else K9 (H9 (C2 (⟨from_,to_⟩:Pth))) ([]:jz) (-1))
theorem C1n:∀ (l:List jz) (w:jz) (k:Int),(∀ e ∈ l,C4s e)→C4s w→C4s (K9 l w k).1∧(K9 l w k).2=0
 | [],w,k,_,hw=>⟨hw,rfl⟩
 | el::l,w,k,h,hw=>by
  have a:=fun e b=>h e (List.mem_cons_of_mem _ b)
  rw [K9];simp only [B5]
  cases ((!decide ((X2 el).2=0))||((decide ((0:Int)≤k))&&(decide (k≤((X2 el).1.length:Int))))) with
  | true=>exact C1n l w k a hw
  | false=>exact C1n l el _ a (h el jU)
theorem E3r (c r:Int) (f:Cur) (t:Plc):A3h c r f t=bif !decide (K8 c r ⟨f,t⟩=0) then ([],K8 c r ⟨f,t⟩) else K9 (H9 ⟨f,t⟩) [] (-1):=rfl
theorem E2o {c r:Int} {f:Cur} {t:Plc} (h:A3h c r f t=R):C4s R.1:=by
 subst h;rw [E3r]
 have b:C4s ([]:jz):=⟨Nat.zero_le _,fun a d=>by cases d⟩
 cases hc:(!decide (K8 c r ⟨f,t⟩=0)) with
 | true=>exact b
 | false=>exact (C1n _ _ _ (C9k (C7l hc)).1 b).1
theorem C6e {l:Int} {from_:Cur} {to_:Plc} (hR:A3h m l from_ to_=R):cM prog 34 [iv m,iv l,ag (F5 from_),ag (A0n to_)] [] [A1o,A1p,M1,P0] ({t:kQ×Nat // R.1.length≤t.2∧R.1.length≤9223372036854775807}) (fun x=>.tuple #[.slice x.1.1 R.1.length x.1.2,iv R.2]) (fun x=>[]) (fun x=>[sl A2 x.1.1 R.1]):=by
 refine cD Tryz.func34 fun X hX hr hD=>?_
 rw[A3h]at hR
 refine k_ ?_
 refine B3r 4 [] (fun o s=>[(6,pt o 0),(7,pt s 0)]) (fun _ _=>(F5 from_)) (fun _ _=>(A0n to_)) 29 24 fun o s=>?_
 refine ie (C5d ?_)
 refine k_ ?_
 refine cI 5 [1,0,0] (fun p=>[(10,pt p 0)]) (fun _=>(Q1 ⟨from_,to_⟩)) 137 fun p=>?_
 refine ie ?_
 refine kc_ ?_
 refine bY 3 2 [0] [(19,iv m),(20,iv l),(21,ag (Q1 ⟨from_,to_⟩))] ?_
 refine zv Z (D0w Z) ?_
 refine k_ ?_
 refine ie ?_
 refine zjn Z hR ?_ ?_<;>clear hR<;>intro hR h4 ad
 ·refine k_ ?_
  subst hR
  refine ie (A8 ?_)
  exact cC hr hD (Y4 Z A6 A6) (zq _ 0) (mk [false,false,false] Z) c9
 have a5:=C7l h4
 refine k_ ?_
 refine cI 4 [0] (fun k=>[(12,pt k 0)]) (fun _=>[.slice none 0 0,iv (-1)]) 142 fun k=>?_
 refine ie (A3 (C5g ?_))
 refine k_ ?_
 refine bY 1 1 [1] [(28,ag (Q1 ⟨from_,to_⟩))] ?_
 refine zc Z (C7d Z) fun z=>?_
 refine k_ ?_
 refine E0l hr Z (C4y _ z (by first|exact a5|assumption) _ Z) c9 Z Z (fun j x=>K9 j x.1 x.2.2.2=R∧x.1.length≤x.2.2.1∧x.1.length≤9223372036854775807∧(∀ e ∈ j,C4s e)) (fun _ _=>False) (fun x=>[bx k [.slice x.2.1 x.1.length x.2.2.1,iv x.2.2.2] _,_,_,_]) (fun x=>[_,A1o,A1p,M1,P0,sl A2 x.2.1 x.1]) (_,_,0,_) (by exact ⟨hR,ofc,ofc,(by exact (C9k a5).1)⟩) (mk [true,true,true,true] Z) c9 ?_ ?_ (fun _ _ _ _ h=>h.elim)
 ·rintro el rest ⟨d,b,c,a⟩ v w ai ah hI Y Y' K' af hK
  try dsimp only at hI
  obtain ⟨hR,g,i,q⟩:=hI
  rw[K9]at hR
  refine k_ ?_
  refine A1 (hK _ _ _ ?_)
  refine k_ ?_
  obtain ⟨n,a3,hR⟩:=C3 hR
  refine zc Z (B3m a3 bW bW (by exact C1f q)) fun ⟨r,u⟩=>?_
  try have:=A9l el (fun x f=>Nat.le_trans (hrow x (by first|exact f|exact List.mem_of_mem_take f|exact List.mem_of_mem_drop f)) ozw);try rw [a3] at this
  refine k_ ?_
  refine ie ?_
  refine k_ ?_
  refine zio 13 0 38 51 ((decide (0≤a))&&(decide (a≤n.1.length))) (fun a4=>?_) ?_
  ·have aa:=bV a4
   refine cB 5 [0] 43 Z ?_
   refine zid 7 1 43 50 (decide (a≤n.1.length)) (fun a7 a9=>?_) ?_
   ·refine bY 7 0 [0] [(50,bv (decide (a≤n.1.length)))] ?_
    exact A1 (I1 2 43 _ a7 A7.refl (mc [[_],[_],[_],[_],_] [true,true,true,true,true] Z oxs) Z Z Z Z Z)
   refine k_ ?_
   exact I1 4 38 _ a4 A7.refl (mc [[_],[_],[_],[_],_] [true,true,true,true,true] Z oxs) Z Z Z Z Z
  refine ie ?_
  refine zjb Z hR ?_ ?_<;>clear hR<;>intro hR y
  ·have a0:=bV y
   refine F1 (B2c (I:=fun j x=>K9 j x.1 x.2.2.2=R∧x.1.length≤x.2.2.1∧x.1.length≤9223372036854775807∧(∀ e ∈ j,C4s e)) (Jx:=fun _ _=>False) (Lk:=fun x=>[bx k [.slice x.2.1 x.1.length x.2.2.1,iv x.2.2.2] _,_,_,_]) (d,b,c,a) (by exact ⟨hR,ofc,ofc,(by exact fun e he=>q e (List.mem_cons_of_mem _ he))⟩) (mc [[_],[_],[_],[_],_] [true,true,true,true,false] Z oxs) ?_)
   exact c9
  refine kc_ ?_
  refine zru 9 [0,0] [] 0 (bx k [.slice v el.length w,iv n.1.length] 142) ?_
  refine A1 (B2c (I:=fun j x=>K9 j x.1 x.2.2.2=R∧x.1.length≤x.2.2.1∧x.1.length≤9223372036854775807∧(∀ e ∈ j,C4s e)) (Jx:=fun _ _=>False) (Lk:=fun x=>[bx k [.slice x.2.1 x.1.length x.2.2.1,iv x.2.2.2] _,_,_,_]) (_,v,w,(n.1.length:Int)) (by exact ⟨hR,ofc,ofc,(by exact fun e he=>q e (List.mem_cons_of_mem _ he))⟩) (mc [[_],[_],[_],[_],_] [true,true,true,true,false] Z oxs) ?_)
  exact c9
 ·rintro aj ⟨d,b,c,a⟩ a2 hI
  try dsimp only at hI
  obtain ⟨hR,g,i,q⟩:=hI
  rw[K9]at hR
  refine k_ ?_
  subst hR
  refine ie (A8 ?_)
  exact B7w Z ⟨hr,hD⟩ (by exact (P3.cons (show P3 X.D by rw [hD];exact P3.nil) a2)) (Y4 Z A6 A6) (zq b c) odv (mk [false,false,false,false] Z) c9
end
section
open Go Go.Fen open Tryz (prog)
variable {R:jz} {a:Int} {c:Col} {from_:Sty} {m:Int} {to_:Sty}
@[reducible] def aD (s:Sty) (l:List Value):List Value := iv s.attr::iv s.under::iv s.fore.kind::iv s.fore.n::iv s.back.kind::iv s.back.n::iv s.line.kind::iv s.line.n::l
theorem E0h:EqT prog 63 B7:=EqT.of 20 Z oki oki (fun _ _=>by kernel_rfl) B7.inj
theorem B4w:Ty prog 63 8 true:=⟨by rfl⟩
theorem F3s:Ty prog 272 5 true:=⟨by rfl⟩
def C3w (a:Act):Prop:=a.kind=39∧a.text=[]
def A9u (a:Int) (m:Int) (c:Col):jz :=
 (([]:jz)++([{ZZ with kind:=39,n:=a,m:=m,color:=c}]:jz))
theorem D3w (a m:Int) (c:Col):(A9u a m c).length=1:=by rfl
theorem D8i {e:Nat} (hR:A9u a m c=R) (i:([]:jz).length≤2000:=by exact bW):cM prog 165 [pt e 0,iv a,iv m,ag (R1 c)] [bx e [.slice none 0 0] 268] [] ({r:VR // bT 6 R.length r}) (fun x=>.tuple #[]) (fun x=>(bx e [.slice (va x.1.q) R.length x.1.k] 268::((vo A2 51 x.1 R)++([])))) (fun x=>[]):=by
 refine cD Tryz.func165 fun X hX hr hD=>?_
 rw[A9u]at hR
 refine k_ ?_
 refine cI 1 [] (fun g=>[(7,pt g 0)]) (fun _=>(R1 c)) 49 fun g=>?_
 refine ie (zSn [(16,[0]),(15,[1])] ?_)
 refine hq4 [0,1,2,3,4,6,7] 8 12 14 15 Z ?_
 refine gl 5 [0,1] Z (B8 C2z Z Z 1) ?_
 refine gl 8 [0,1] Z (G6 (us:=R1 c) C4m Z Z 0) ?_
 refine gk 9 Z (A2h (cs:=A2 ({ZZ with kind:=39,n:=a,m:=m,color:=c})) Z Z oki) ?_
 refine go 10 [0,1] Z (B0 (c:=A2) (xs:=[{ZZ with kind:=39,n:=a,m:=m,color:=c}]) N3 Z Z Z oki) fun h=>?_
 have:([{ZZ with kind:=39,n:=a,m:=m,color:=c}]:jz).length=1:=rfl
 refine go 11 [0,1] Z (Q7 (f:=A2) (r:=VR.nil) (xs:=jZ) (ys:=([{ZZ with kind:=39,n:=a,m:=m,color:=c}]:jz)) (pre:=[bx g (R1 c) 49,bx e [.slice none 0 0] 268]) (post:=[]) A0c jJ jJ Z Z Z Z Z Z Z Z Z (A5 0 Z) bT.nil ofv ofv) fun ⟨d,b⟩=>?_
 refine hq1 [12,13,14] 22 Z ?_
 refine go 15 [0] Z (O9 (us:=[.slice (va d.q) ((jZ++([{ZZ with kind:=39,n:=a,m:=m,color:=c}]:jz)).length) d.k]) (cs':=[.slice (va d.q) ((jZ++([{ZZ with kind:=39,n:=a,m:=m,color:=c}]:jz)).length) d.k]) C2z Z Z Z 1) fun _=>?_
 refine gdn ?_
 subst hR
 exact zen hr hD (B3x Z) ⟨d,b⟩ bU bX
def A0x (r:jz) (a:Int) (m:Int) (c:Col):jz :=
 (r++([{ZZ with kind:=39,n:=a,m:=m,color:=c}]:jz))
theorem A4u (r:jz) (a m:Int) (c:Col):(A0x r a m c).length=r.length+1:=by simp[A0x]
theorem A7d {r:jz} {g:Nat} {rr:VR} (hR:A0x r a m c=R) (b:bT 6 r.length rr:=by exact bW) (j:r.length≤2000:=by exact bW):cM prog 165 [pt g 0,iv a,iv m,ag (R1 c)] (bx g [.slice (va rr.q) r.length rr.k] 268::((vo A2 51 rr r)++([]))) [] ({r:VR // bT 6 R.length r}) (fun x=>.tuple #[]) (fun x=>(bx g [.slice (va x.1.q) R.length x.1.k] 268::((vo A2 51 x.1 R)++([])))) (fun x=>[]):=by
 refine cD Tryz.func165 fun X hX hr hD=>?_
 rw[A0x]at hR
 refine k_ ?_
 refine cI 1 [] (fun h=>[(7,pt h 0)]) (fun _=>(R1 c)) 49 fun h=>?_
 refine ie (zSn [(16,[0]),(15,[1]),(11,[2])] ?_)
 refine hq4 [0,1,2,3,4,6,7] 8 12 14 15 Z ?_
 refine gl 5 [0,1,2] Z (B8 C2z Z Z 1) ?_
 refine gl 8 [0,1] Z (G6 (us:=R1 c) C4m Z Z 0) ?_
 refine gk 9 Z (A2h (cs:=A2 ({ZZ with kind:=39,n:=a,m:=m,color:=c})) Z Z oki) ?_
 refine go 10 [0,1,2] Z (B0 (c:=A2) (xs:=[{ZZ with kind:=39,n:=a,m:=m,color:=c}]) N3 Z Z Z oki) fun i=>?_
 have:([{ZZ with kind:=39,n:=a,m:=m,color:=c}]:jz).length=1:=rfl
 refine go 11 [0,1] Z (Q7 (f:=A2) (r:=rr) (xs:=r) (ys:=([{ZZ with kind:=39,n:=a,m:=m,color:=c}]:jz)) (pre:=[bx h (R1 c) 49,bx g [.slice (va rr.q) r.length rr.k] 268]) (post:=[]) A0c jJ jJ Z Z Z Z Z Z Z Z Z (A5 0 Z) b ofv ofv) fun ⟨e,d⟩=>?_
 refine hq1 [12,13,14] 22 Z ?_
 refine go 15 [0] Z (O9 (us:=[.slice (va e.q) ((r++([{ZZ with kind:=39,n:=a,m:=m,color:=c}]:jz)).length) e.k]) (cs':=[.slice (va e.q) ((r++([{ZZ with kind:=39,n:=a,m:=m,color:=c}]:jz)).length) e.k]) C2z Z Z Z 1) fun _=>?_
 refine gdn ?_
 subst hR
 exact zen hr hD (B3x Z) ⟨e,d⟩ bU bX
def A7j (b:Int) (a:Int→jz→jz) (c:jz):jz :=
 a (b * 2) c
def A8e (a:jz):jz :=
 a
def A8j (from_:Sty) (to_:Sty) (b:jz):jz :=
 (bif (!(decide (from_.line=to_.line))) then (B5 (A0x b 6 0 to_.line) fun (a:jz)=>A8e a) else A8e b)
def A8h (from_:Sty) (to_:Sty) (b:jz):jz :=
 (bif (!(decide (from_.back=to_.back))) then (B5 (A0x b 5 0 to_.back) fun (a:jz)=>A8j from_ to_ a) else A8j from_ to_ b)
def A7f (from_:Sty) (to_:Sty) (b:jz):jz :=
 (bif (!(decide (from_.fore=to_.fore))) then (B5 (A0x b 4 0 to_.fore) fun (a:jz)=>A8h from_ to_ a) else A8h from_ to_ b)
def A7h (b:Int) (a:Int→jz→jz) (c:jz):jz :=
 a (b * 2) c
def X5 (from_:Sty) (to_:Sty) (a:Int):Nat→Int→jz→jz
 | 0,_,_=>[]
 | fu3+1,bit1,y3=>(bif (decide ((255:Int)<bit1)) then (bif (!decide (from_.under=to_.under)) then (B5 (A0x y3 3 to_.under ZU) fun (c:jz)=>A7f from_ to_ c) else A7f from_ to_ y3) else (bif ((!decide ((cH .and .i64 to_.attr bit1)=0))&&(decide ((cH .and .i64 a bit1)=0))) then (B5 (A0x y3 1 bit1 ZU) fun (b:jz)=>A7h bit1 (X5 from_ to_ a fu3) b) else A7h bit1 (X5 from_ to_ a fu3) y3))
def Z6 (from_:Sty) (to_:Sty) (a:Int):Nat→Int→jz→jz
 | 0,_,_=>[]
 | fu1+1,bit,y5=>(bif (decide (bit≤255)) then (bif ((!decide ((cH .and .i64 a bit)=0))&&(decide ((cH .and .i64 to_.attr bit)=0))) then (B5 (A0x y5 2 bit ZU) fun (b:jz)=>A7j bit (Z6 from_ to_ a fu1) b) else A7j bit (Z6 from_ to_ a fu1) y5) else X5 from_ to_ a (((512:Int) - 1).toNat+1) 1 y5)
def A3i (from_:Sty) (to_:Sty) (b:Int) (a:jz):jz :=
 Z6 from_ to_ b (((512:Int) - 1).toNat+1) 1 a
def A9j (from_:Sty) (to_:Sty):jz :=
 (bif (!decide ((cH .and .i64 (cH .andNot .i64 from_.attr to_.attr) 3)=0)) then (B5 (A9u 2 3 ZU) fun (a:jz)=>A3i from_ to_ (cH .andNot .i64 from_.attr 3) a) else A3i from_ to_ from_.attr ([]:jz))
def kA (n m:Int):Act:={ZZ with kind:=39,n:=n,m:=m}
def kC (n:Int) (c:Col):Act:={ZZ with kind:=39,n:=n,color:=c}
def Y7 (c:Bool) (a:Act):jz:=bif c then [a] else []
def C2q:List Int:=[1,2,4,8,16,32,64,128]
def D3j (a:Int) (t:Sty) (b:Int):Bool:=(!decide ((cH .and .i64 a b)=0))&&(decide ((cH .and .i64 t.attr b)=0))
def D8g (a:Int) (t:Sty) (b:Int):Bool:=(!decide ((cH .and .i64 t.attr b)=0))&&(decide ((cH .and .i64 a b)=0))
def E5w (a:Int) (t:Sty):jz:=C2q.flatMap fun b=>Y7 (D3j a t b) (kA 2 b)
def sets (a:Int) (t:Sty):jz:=C2q.flatMap fun b=>Y7 (D8g a t b) (kA 1 b)
def B3t (f t:Sty):jz:=Y7 (!decide (f.under=t.under)) (kA 3 t.under)++(Y7 (!decide (f.fore=t.fore)) (kC 4 t.fore)++(Y7 (!decide (f.back=t.back)) (kC 5 t.back)++Y7 (!decide (f.line=t.line)) (kC 6 t.line)))
def D5c (f t:Sty):Bool:=!decide ((cH .and .i64 (cH .andNot .i64 f.attr t.attr) 3)=0)
def B9x (f t:Sty):Int:=bif D5c f t then cH .andNot .i64 f.attr 3 else f.attr
def chg (f t:Sty):jz:=Y7 (D5c f t) (kA 2 3)++(E5w (B9x f t) t++(sets (B9x f t) t++B3t f t))
theorem B0l {c:Bool} {a x:Act} (h:x ∈ Y7 c a):x=a:=by grind[Y7]
theorem D0i (c:Bool) (a:Act):(Y7 c a).length≤1:=by grind[Y7]
theorem B8t (f t:Sty) (l:jz):A7f f t l=l++(Y7 (!decide (f.fore=t.fore)) (kC 4 t.fore)++(Y7 (!decide (f.back=t.back)) (kC 5 t.back)++Y7 (!decide (f.line=t.line)) (kC 6 t.line))):=by grind[A7f,A8h,A8j,A8e,B5,A0x,Y7,kC,ZZ]
theorem Y3 (f t:Sty) (a:Int) (F:Nat) (b:Int) (l:jz) (hb:b≤255):X5 f t a (F+1) b l=X5 f t a F (b * 2) (l++Y7 (D8g a t b) (kA 1 b)):=by
 rw [X5,jX (by omega:¬ (255:Int)<b),cond_false]
 show (bif D8g a t b then _ else _)=_
 cases D8g a t b with
 | true=>rfl
 | false=>simp[A7h,Y7]
theorem C6x (f t:Sty) (a:Int) (F:Nat) (l:jz):X5 f t a (F+1) 256 l=l++B3t f t:=by
 rw [X5,jQ (by omega:(255:Int)<256),cond_true]
 unfold B3t
 cases decide (f.under=t.under) with
 | true=>simp[B8t,Y7]
 | false=>simp only [Bool.not_false,cond_true,B5,B8t,Y7,A0x,List.append_assoc];rfl
theorem C9h (f t:Sty) (a:Int) (F:Nat) (b:9≤F) (l:jz):X5 f t a F 1 l=l++(sets a t++B3t f t):=by
 obtain ⟨G,rfl⟩:∃ G,F=G+1+1+1+1+1+1+1+1+1:=⟨F - 9,by omega⟩
 simp[Y3,C6x,sets,C2q]
theorem Y1 (f t:Sty) (a:Int) (F:Nat) (b:Int) (l:jz) (hb:b≤255):Z6 f t a (F+1) b l=Z6 f t a F (b * 2) (l++Y7 (D3j a t b) (kA 2 b)):=by
 rw [Z6,jQ hb,cond_true]
 generalize ((512:Int) - 1).toNat+1=Zb
 show (bif D3j a t b then _ else _)=_
 cases D3j a t b with
 | true=>rfl
 | false=>simp[A7j,Y7]
theorem C7s (f t:Sty) (a:Int) (F:Nat) (l:jz):Z6 f t a (F+1) 256 l=l++(sets a t++B3t f t):=by simp[Z6,C9h]
theorem B8y (f t:Sty) (a:Int) (l:jz):A3i f t a l=l++(E5w a t++(sets a t++B3t f t)):=by
 rw [A3i]
 generalize hF:((512:Int) - 1).toNat+1=F
 obtain ⟨G,rfl⟩:∃ G,F=G+1+1+1+1+1+1+1+1+1:=⟨F - 9,by omega⟩
 simp[Y1,C7s,E5w,C2q]
theorem D3f (f t:Sty) (X:jz) (c:Bool) (a:D5c f t=c) (h:(bif c then (B5 (A9u 2 3 ZU) fun (r:jz)=>A3i f t (cH .andNot .i64 f.attr 3) r) else A3i f t f.attr ([]:jz))=X):X=chg f t:=by
 unfold chg B9x
 rw [a]
 clear a
 cases c with
 | true=>rw [cond_true] at h;obtain ⟨r,hr,h⟩:=C3 h;rw [B8y] at h;rw [← h,← hr,cond_true];rfl
 | false=>simp_all[B8y,Y7]
theorem A9d (f t:Sty):A9j f t=chg f t:=D3f f t _ _ Z (A9j.eq_1 f t).symm
theorem E1r (f t:Sty):(chg f t).length≤21:=by
 have h:=D0i
 unfold chg E5w sets B3t C2q
 simp only [List.flatMap_cons,List.flatMap_nil,List.length_append,List.length_nil]
 grind
theorem D4f (f t:Sty):∀ a ∈ chg f t,C3w a:=by
 intro a d
 have e:∀ n m,C3w (kA n m):=fun n m=>⟨rfl,rfl⟩
 have g:∀ n c,C3w (kC n c):=fun n c=>⟨rfl,rfl⟩
 unfold chg E5w sets B3t at d
 simp only [List.mem_append,List.mem_flatMap] at d
 grind[B0l]
theorem C2y (f t:Sty):(A9j f t).length≤1100:=by grind[A9d,E1r]
theorem C6c (hR:A9j from_ to_=R):cM prog 106 [ag (B7 from_),ag (B7 to_)] [] [] ({r:VR // bT 6 R.length r}) (fun x=>.slice (va x.1.q) R.length x.1.k) (fun x=>((vo A2 51 x.1 R)++([]))) (fun x=>[]):=by
 refine cD Tryz.func106 fun X hX hr hD=>?_
 rw[A9j]at hR
 refine bS Z (B3r 3 [] (fun b1 b2=>[(2,pt _ 0),(3,pt b2 0)]) (fun _ _=>(B7 from_)) (fun _ _=>(B7 to_)) 63 63 fun b1 b2=>(ie (C5d (bS Z (cI 3 [] (fun t=>[(5,pt t 0)]) (fun _=>[.slice none 0 0]) 268 fun t=>(ie (bS Z (ip' 3 0 [(6,.func (.func 165) #[pt t 0] #[])] (ie (bS Z (cB 3 [2] 7 Z ?_)))))))))))
 let B:=bx b2 (B7 to_) 63
 let A:=bx b1 (B7 from_) 63
 refine ie (A7i (un fun a2=>un fun y w=>(A3i from_ to_ a2 y=R∧bT 6 y.length w∧y.length≤1,[(2,pt b1 0),(3,pt b2 0),(5,pt t 0),(6,.func (.func 165) #[pt t 0] #[]),(7,iv a2)],(bx t [.slice (va w.q) y.length w.k] 268::B::A::((vo A2 51 w y)++([]))),[])) ?_ ?_)
 ·refine bS Z (cB 6 [2,1] 8 Z (ie (bS Z (bP 3 26 Z (ie ?_)))))
  refine zjn Z hR ?_ ?_<;>intro hR h4 c6
  ·refine bS Z (bY 2 1 [] [(27,.func (.func 165) #[pt t 0] #[]),(28,ag (R1 ZU))] ?_)
   obtain ⟨y0,ba,hR⟩:=C3 hR
   refine zc Z (D8i ba) fun ⟨r5,az⟩=>?_
   have:=D3w 2 3 ZU;try rw [ba] at this
   refine ie (A0 3 Z (bP 3 7 Z (A1 ?_)))
   exact S6 (_,_,_) ⟨hR,az,ozq⟩ bU bX
  refine A4 (Y9 (I8 [_,_,_,_] [1,2,3,0] 4 Z ozw Z [[_],[_],[_],vo A2 51 VR.nil []] Z opv) ?_)
  exact S6 (_,_,_) ⟨hR,bT.nil,ozq⟩ bU bX
 rintro ⟨a2,y,w⟩
 rintro ⟨hR,aa,hj⟩
 rw[A3i]at hR
 refine A3 (bS Z (bP 1 9 Z (ie (A9 ?_))))
 refine A1y (un fun fu=>un fun u=>un fun y5 f=>((512 - u).toNat<fu∧Z6 _ _ _ fu u y5=R∧bT 6 y5.length f∧1≤u∧u≤510∧y5.length≤u,[(2,_),(3,_),(5,_),(6,_),(7,_),(9,iv u)],(bx t [.slice (va f.q) y5.length f.k] _::bx _ _ _::bx _ _ _::((vo _ _ f y5)++([]))),_,fu)) (_,1,y,w) ⟨(Nat.lt_succ_self _),hR,aa,opx,ozq⟩ bU bX ?_
 rintro ⟨fu,u,y5,f⟩ ⟨c8,hR,h,hb,hn⟩
 have:=bT.le h
 obtain ⟨fu1,rfl⟩:∃ m,fu=m+1:=⟨fu - 1,by omega⟩
 rw[Z6]at hR
 refine A3 (bS Z (bP 2 33 Z (ie ?_)))
 refine cK Z hR ?_ ?_<;>intro hR h8 cd
 ·refine A4 (nx (A7i (un fun y9 p=>(A7j u (Z6 from_ to_ a2 fu1) y9=R∧bT 6 y9.length p∧y9.length≤u+1,[(2,pt b1 0),(3,pt b2 0),(5,pt t 0),(6,.func (.func 165) #[pt t 0] #[]),(7,iv a2),(9,iv u)],(bx t [.slice (va p.q) y9.length p.k] 268::B::A::((vo A2 51 p y9)++([]))),[])) ?_ ?_))
  ·refine A9 (bS Z (bP 5 40 Z ?_))
   refine zia 6 0 40 46 (decide ((cH .and .i64 to_.attr u)=0)) (fun g9=>?_) ?_
   ·have ce:=bV g9
    refine cB 6 [1] 46 Z ?_
    exact A1 (I1 2 40 _ g9 bX bU Z Z Z Z Z)
   refine ie ?_
   refine zjb Z hR ?_ ?_<;>intro hR ay
   ·have b8:=bV ay
    refine A0 4 Z (bY 3 1 [] [(47,.func (.func 165) #[pt t 0] #[]),(48,iv u),(49,ag (R1 ZU))] ?_)
    obtain ⟨y1,b7,hR⟩:=C3 hR
    refine zc Z (A7d b7 h) fun ⟨bo,ak⟩=>?_
    have:=A4u y5 2 u ZU;try rw [b7] at this
    refine A1 ?_
    exact S6 (_,_) ⟨hR,ak,ozq⟩ bU bX
   try (have a8:d≤255:=by have q:=ay;simp at q;omega)
   refine A4 ?_
   exact S6 (_,f) ⟨hR,h,ozq⟩ bU bX
  rintro ⟨y9,p⟩
  rintro ⟨hR,a6,hj⟩
  rw[A7j]at hR
  refine A0 3 Z (bP 1 34 Z (ix Z (E1u Z Z Z ozw (by show IntKind.i64.wrap (u * 2)=_;exact A3b (by simp [IntKind.min,IntKind.signed,IntKind.bits];omega) (by simp [IntKind.max,IntKind.signed,IntKind.bits];omega))) (bP 1 9 Z (A1 ?_))))
  exact z0 (_,_,_,p) ⟨opx,hR,a6,(by first|omega|(rw [A3b (by simp [IntKind.min,IntKind.signed,IntKind.bits];omega) (by simp [IntKind.max,IntKind.signed,IntKind.bits];omega)];omega)),ozq⟩
 refine F1 (nx (A3 (C5g (nx (A3 (bS Z (bP 1 10 Z (ie (A9 ?_)))))))))
 refine A1y (un fun ab=>un fun d=>un fun y3 g=>((512 - d).toNat<ab∧X5 _ _ _ ab d y3=R∧bT 6 y3.length g∧1≤d∧d≤510∧y3.length≤512+d,[(2,_),(3,_),(5,_),(6,_),(7,_),(10,iv d)],(bx t [.slice (va g.q) y3.length g.k] _::bx _ _ _::bx _ _ _::((vo _ _ g y3)++([]))),_,ab)) (_,1,_,f) ⟨(Nat.lt_succ_self _),hR,h,opx,ozq⟩ bU bX ?_
 rintro ⟨ab,d,y3,g⟩ ⟨c1,hR,e,hb,hn⟩
 have:=bT.le e
 obtain ⟨fu3,rfl⟩:∃ m,ab=m+1:=⟨ab - 1,by omega⟩
 rw[X5]at hR
 refine A7i (un fun a9 i=>(A7h d (X5 from_ to_ a2 fu3) a9=R∧bT 6 a9.length i∧a9.length≤513+d∧d≤255,[(2,pt b1 0),(3,pt b2 0),(5,pt t 0),(6,.func (.func 165) #[pt t 0] #[]),(7,iv a2),(10,iv d)],(bx t [.slice (va i.q) a9.length i.k] 268::B::A::((vo A2 51 i a9)++([]))),[])) ?_ ?_
 ·refine A9 (A3 (bS Z (bP 2 54 Z (ie ?_))))
  refine cK Z hR ?_ ?_<;>intro hR bd bw
  ·refine F1 (nx (A7i (un fun y8 j=>(A7f from_ to_ y8=R∧bT 6 y8.length j∧y8.length≤1100,[(2,pt b1 0),(3,pt b2 0),(5,pt t 0),(6,.func (.func 165) #[pt t 0] #[])],(bx t [.slice (va j.q) y8.length j.k] 268::B::A::((vo A2 51 j y8)++([]))),[])) ?_ ?_))
   ·refine bS Z (cB 5 [2,1] 74 Z (ie ?_))
    refine zjn Z hR ?_ ?_<;>intro hR bg c0
    ·refine A0 5 Z (bY 4 1 [1] [(75,.func (.func 165) #[pt t 0] #[]),(77,iv to_.under),(78,ag (R1 ZU))] ?_)
     obtain ⟨bn,aw,hR⟩:=C3 hR
     refine zc Z (A7d aw e) fun ⟨bk,aj⟩=>?_
     have:=bT.le aj
     have:=A4u y3 3 to_.under ZU;try rw [aw] at this
     refine A1 ?_
     exact S6 (_,_) ⟨hR,aj,ozq⟩ bU bX
    try (have a8:d≤255:=by have q:=bg;simp at q;omega)
    refine A4 ?_
    exact S6 (_,g) ⟨hR,e,ozq⟩ bU bX
   rintro ⟨y8,j⟩
   rintro ⟨hR,a1,hj⟩
   rw[A7f]at hR
   refine A3 (bS Z (bY 17 0 [2,1,2,1,2,1] [(95,ag [iv 4,iv from_.fore.kind,iv from_.fore.n,iv to_.fore.kind,iv to_.fore.n,iv 5,iv from_.back.kind,iv from_.back.n,iv to_.back.kind,iv to_.back.n,iv 6,iv from_.line.kind,iv from_.line.n,iv to_.line.kind,iv to_.line.n]),(96,iv 0)] ?_))
   refine ie (A9 (A1g 5 (E9 (bS Z (bP 1 97 Z (ie (A3 (K1 Z (A4 (nx (A7i (un fun y6 o=>(A8h from_ to_ y6=R∧bT 6 y6.length o∧y6.length≤1101,[(5,pt t 0),(6,.func (.func 165) #[pt t 0] #[]),(95,ag [iv 4,iv from_.fore.kind,iv from_.fore.n,iv to_.fore.kind,iv to_.fore.n,iv 5,iv from_.back.kind,iv from_.back.n,iv to_.back.kind,iv to_.back.n,iv 6,iv from_.line.kind,iv from_.line.n,iv to_.line.kind,iv to_.line.n]),(96,iv 0)],(bx t [.slice (va o.q) y6.length o.k] 268::B::A::((vo A2 51 o y6)++([]))),[])) ?_ ?_)))))))))))
   ·refine A9 (bS Z (ix Z (F3 (v:=ag [_,_,_,_,_]) Tryz.underlying273 F3s Z Z Z 0) ?_))
    refine cI 2 [0] (fun b4=>[(12,pt b4 0)]) (fun _=>[iv 4,iv from_.fore.kind,iv from_.fore.n,iv to_.fore.kind,iv to_.fore.n]) 272 fun b4=>?_
    refine ie (bS Z (bY 4 1 [0,0] [(100,ag [iv _,iv _]),(102,ag [iv _,iv _])] (ix Z (A0f (a:=from_.fore) (b:=to_.fore) B5g Z Z Z) (ie ?_))))
    refine zjn Z hR ?_ ?_<;>intro hR c5 bz
    ·refine A0 6 Z (bY 5 1 [0,0] [(104,.func (.func 165) #[pt t 0] #[]),(106,iv 4),(108,ag [iv to_.fore.kind,iv to_.fore.n])] ?_)
     obtain ⟨bh,au,hR⟩:=C3 hR
     refine zc Z (A7d au a1) fun ⟨br,af⟩=>?_
     have:=A4u y8 4 0 to_.fore;try rw [au] at this
     refine A1 ?_
     exact S6 (_,_) ⟨hR,af,ozq⟩ bU bX
    refine A4 ?_
    exact S6 (_,j) ⟨hR,a1,ozq⟩ bU bX
   rintro ⟨y6,o⟩
   rintro ⟨hR,z,hj⟩
   rw[A8h]at hR
   refine A0 2 Z (ix Z (B1 (c:=1)) (bP 1 96 Z (A1 (E9 (bS Z (bP 1 97 Z (ie (A3 (K1 Z (A4 (nx (A7i (un fun y7 l=>(A8j from_ to_ y7=R∧bT 6 y7.length l∧y7.length≤1102,[(5,pt t 0),(6,.func (.func 165) #[pt t 0] #[]),(95,ag [iv 4,iv from_.fore.kind,iv from_.fore.n,iv to_.fore.kind,iv to_.fore.n,iv 5,iv from_.back.kind,iv from_.back.n,iv to_.back.kind,iv to_.back.n,iv 6,iv from_.line.kind,iv from_.line.n,iv to_.line.kind,iv to_.line.n]),(96,iv 1)],(bx t [.slice (va l.q) y7.length l.k] 268::B::A::((vo A2 51 l y7)++([]))),[])) ?_ ?_))))))))))))
   ·refine A9 (bS Z (ix Z (F3 (v:=ag [_,_,_,_,_]) Tryz.underlying273 F3s Z Z Z 1) ?_))
    refine cI 2 [0] (fun b5=>[(12,pt b5 0)]) (fun _=>[iv 5,iv from_.back.kind,iv from_.back.n,iv to_.back.kind,iv to_.back.n]) 272 fun b5=>?_
    refine ie (bS Z (bY 4 1 [0,0] [(100,ag [iv _,iv _]),(102,ag [iv _,iv _])] (ix Z (A0f (a:=from_.back) (b:=to_.back) B5g Z Z Z) (ie ?_))))
    refine zjn Z hR ?_ ?_<;>intro hR cb c3
    ·refine A0 6 Z (bY 5 1 [0,0] [(104,.func (.func 165) #[pt t 0] #[]),(106,iv 5),(108,ag [iv to_.back.kind,iv to_.back.n])] ?_)
     obtain ⟨bp,ar,hR⟩:=C3 hR
     refine zc Z (A7d ar z) fun ⟨bl,ai⟩=>?_
     have:=A4u y6 5 0 to_.back;try rw [ar] at this
     refine A1 ?_
     exact S6 (_,_) ⟨hR,ai,ozq⟩ bU bX
    refine A4 ?_
    exact S6 (_,o) ⟨hR,z,ozq⟩ bU bX
   rintro ⟨y7,l⟩
   rintro ⟨hR,a0,hj⟩
   rw[A8j]at hR
   refine A0 2 Z (ix Z (B1 (c:=2)) (bP 1 96 Z (A1 (E9 (bS Z (bP 1 97 Z (ie (A3 (K1 Z (A4 (nx (A7i (un fun al s=>(A8e al=R∧bT 6 al.length s,[(5,pt t 0),(6,.func (.func 165) #[pt t 0] #[]),(95,ag [iv 4,iv from_.fore.kind,iv from_.fore.n,iv to_.fore.kind,iv to_.fore.n,iv 5,iv from_.back.kind,iv from_.back.n,iv to_.back.kind,iv to_.back.n,iv 6,iv from_.line.kind,iv from_.line.n,iv to_.line.kind,iv to_.line.n]),(96,iv 2)],(bx t [.slice (va s.q) al.length s.k] 268::B::A::((vo A2 51 s al)++([]))),[])) ?_ ?_))))))))))))
   ·refine A9 (bS Z (ix Z (F3 (v:=ag [_,_,_,_,_]) Tryz.underlying273 F3s Z Z Z 2) ?_))
    refine cI 2 [0] (fun b6=>[(12,pt b6 0)]) (fun _=>[iv 6,iv from_.line.kind,iv from_.line.n,iv to_.line.kind,iv to_.line.n]) 272 fun b6=>?_
    refine ie (bS Z (bY 4 1 [0,0] [(100,ag [iv _,iv _]),(102,ag [iv _,iv _])] (ix Z (A0f (a:=from_.line) (b:=to_.line) B5g Z Z Z) (ie ?_))))
    refine zjn Z hR ?_ ?_<;>intro hR c7 c2
    ·refine A0 6 Z (bY 5 1 [0,0] [(104,.func (.func 165) #[pt t 0] #[]),(106,iv 6),(108,ag [iv to_.line.kind,iv to_.line.n])] ?_)
     obtain ⟨bj,ao,hR⟩:=C3 hR
     refine zc Z (A7d ao a0) fun ⟨be,ah⟩=>?_
     have:=A4u y7 6 0 to_.line;try rw [ao] at this
     refine A1 ?_
     exact S6 (_,_) ⟨hR,ah⟩ bU bX
    refine A4 ?_
    exact S6 (_,l) ⟨hR,a0⟩ bU bX
   rintro ⟨al,s⟩
   rintro ⟨hR,a7⟩
   rw[A8e]at hR
   refine A0 2 Z (ix Z (B1 (c:=3)) (bP 1 96 Z (A1 (E9 (bS Z (bP 1 97 Z (ie (A3 (A5t Z (F1 (nx (bS Z (cB 6 [0] 4 Z ?_)))))))))))))
   subst hR
   refine ie (A8 ?_)
   exact ci ⟨s,a7⟩
  try (have a8:d≤255:=by have q:=bd;simp at q;omega)
  refine A4 (nx (bS Z (cB 6 [1] 60 Z ?_)))
  refine zia 5 0 60 65 (decide ((cH .and .i64 a2 d)=0)) (fun bb=>?_) ?_
  ·have c4:=bV bb
   refine bP 5 65 Z ?_
   exact A1 (I1 2 60 _ bb bX bU Z Z Z Z Z)
  refine ie ?_
  refine zjb Z hR ?_ ?_<;>intro hR b0
  ·have bc:=bV b0
   refine A0 4 Z (bY 3 1 [] [(66,.func (.func 165) #[pt t 0] #[]),(67,iv d),(68,ag (R1 ZU))] ?_)
   obtain ⟨bm,aq,hR⟩:=C3 hR
   refine zc Z (A7d aq e) fun ⟨bi,ad⟩=>?_
   have:=A4u y3 1 d ZU;try rw [aq] at this
   refine A1 ?_
   exact S6 (_,_) ⟨hR,ad,ozq⟩ bU bX
  try (have a8:d≤255:=by have q:=b0;simp at q;omega)
  refine A4 ?_
  exact S6 (_,g) ⟨hR,e,ozq⟩ bU bX
 rintro ⟨a9,i⟩
 rintro ⟨hR,a5,hj⟩
 rw[A7h]at hR
 refine A0 3 Z (bP 1 51 Z (ix Z (E1u Z Z Z ozw (by show IntKind.i64.wrap (d * 2)=_;exact A3b (by simp [IntKind.min,IntKind.signed,IntKind.bits];omega) (by simp [IntKind.max,IntKind.signed,IntKind.bits];omega))) (bP 1 10 Z (A1 ?_))))
 exact z0 (_,_,_,i) ⟨opx,hR,a5,(by first|omega|(rw [A3b (by simp [IntKind.min,IntKind.signed,IntKind.bits];omega) (by simp [IntKind.max,IntKind.signed,IntKind.bits];omega)];omega)),ozq⟩
def A6h (from_:Sty) (to_:Sty):jz×Int :=
 (bif (!decide ((G2 from_)=0)) then (([]:jz),(G2 from_)) else (bif (!decide ((G2 to_)=0)) then (([]:jz),(G2 to_)) else (B5 (A9j from_ to_) fun (a:jz)=>(a,0))))
theorem C2n (f t:Sty):(A6h f t).1.length≤21:=by
 have h:=E1r f t;rw [← A9d] at h
 unfold A6h;simp only [B5,Bool.cond_eq_ite];grind
theorem C2u (f t:Sty):∀ a ∈ (A6h f t).1,C3w a:=by
 have h:=D4f f t;rw [← A9d] at h
 unfold A6h;simp only [B5,Bool.cond_eq_ite];grind
theorem D9l {R:jz×Int} (hR:A6h from_ to_=R):cM prog 65 [ag (B7 from_),ag (B7 to_)] [] [] ({r:VR // bT 6 R.1.length r}) (fun x=>.tuple #[.slice (va x.1.q) R.1.length x.1.k,iv R.2]) (fun x=>((vo A2 51 x.1 R.1)++([]))) (fun x=>[]):=by
 refine cD Tryz.func65 fun X hX hr hD=>?_
 rw[A6h]at hR
 refine bS Z (B3r 4 [] (fun d f=>[(2,pt d 0),(3,pt f 0)]) (fun _ _=>(B7 from_)) (fun _ _=>(B7 to_)) 63 63 fun d f=>(ie (A3 (bS Z (bY 4 0 [1,0] [(11,ag [iv from_.attr,iv from_.under,iv from_.fore.kind,iv from_.fore.n,iv from_.back.kind,iv from_.back.n,iv from_.line.kind,iv from_.line.n,iv to_.attr,iv to_.under,iv to_.fore.kind,iv to_.fore.n,iv to_.back.kind,iv to_.back.n,iv to_.line.kind,iv to_.line.n]),(12,iv 0)] (ie (A9 (A1g 4 ?_))))))))
 refine E9 (bS Z (bP 1 13 Z (ie (A3 (K1 Z (A4 (nx (A3 (A9 (bS Z (ix Z (F3 (v:=ag (aD _ [])) Tryz.underlying203 B4w Z Z Z 0) ?_)))))))))))
 refine cI 2 [0] (fun g=>[(7,pt g 0)]) (fun _=>(B7 from_)) 63 fun g=>?_
 refine ie (bS Z (bY 1 2 [0] [(15,ag (B7 from_))] (zv Z (A8r Z) (bP 1 8 Z (ie (bS Z (bP 2 18 Z (ie ?_))))))))
 refine zjn Z hR ?_ ?_<;>intro hR o l
 ·refine bS Z (cF 3 4 5 Z ?_)
  subst hR
  refine ie (A8 ?_)
  exact cy ⟨_,bT.nil⟩
 refine A4 (nx (A0 2 Z (ix Z (B1 (c:=1)) (bP 1 12 Z (A1 (E9 (bS Z (bP 1 13 Z (ie (A3 (K1 Z (A4 (nx (A3 (A9 (bS Z (ix Z (F3 (v:=ag (aD _ [])) Tryz.underlying203 B4w Z Z Z 1) ?_)))))))))))))))))
 refine cI 2 [0] (fun e=>[(7,pt e 0)]) (fun _=>(B7 to_)) 63 fun e=>?_
 refine ie (bS Z (bY 1 2 [0] [(15,ag (B7 to_))] (zv Z (A8r Z) (bP 1 8 Z (ie (bS Z (bP 2 18 Z (ie ?_))))))))
 refine zjn Z hR ?_ ?_<;>intro hR m h
 ·refine bS Z (cF 3 4 5 Z ?_)
  subst hR
  refine ie (A8 ?_)
  exact cy ⟨_,bT.nil⟩
 refine A4 (nx (A0 2 Z (ix Z (B1 (c:=2)) (bP 1 12 Z (A1 (E9 (bS Z (bP 1 13 Z (ie (A3 (A5t Z (F1 (nx (bS Z (bY 2 3 [3,2] [(21,ag (B7 from_)),(22,ag (B7 to_))] ?_)))))))))))))))
 obtain ⟨p,b,hR⟩:=C3 hR
 refine zc Z (C6c b) fun ⟨j,a⟩=>?_
 have:=C2y from_ to_;try rw [b] at this
 refine cF 2 4 5 Z ?_
 subst hR
 refine ie (A8 ?_)
 exact cy _
def B5r (to_:Sty):jz :=
 (B5 (A9j ZJ to_) fun (a:jz)=>(([{ZZ with kind:=39,n:=0}]:jz)++a))
theorem C3q (t:Sty):B5r t=kA 0 0::chg ZJ t:=by unfold B5r B5;rw [A9d];rfl
theorem C8n (t:Sty):(B5r t).length≤22:=by simp[C3q,E1r]
theorem C7z (t:Sty):∀ a ∈ B5r t,C3w a:=by
 rw [C3q];intro a b
 rcases List.mem_cons.1 b with rfl | b
 ·exact ⟨rfl,rfl⟩
 grind[D4f]
theorem E8d (hR:B5r to_=R):cM prog 66 [ag (B7 to_)] [] [] ({r:VR // bT 6 R.length r}) (fun x=>.slice (va x.1.q) R.length x.1.k) (fun x=>((vo A2 51 x.1 R)++([]))) (fun x=>[]):=by
 refine cD Tryz.func66 fun X hX hr hD=>?_
 rw[B5r]at hR
 refine k_ ?_
 refine cI 2 [] (fun b=>[(1,pt b 0)]) (fun _=>(B7 to_)) 63 fun b=>?_
 refine ie (k_ ?_)
 refine bY 1 6 [] [(3,ag (A2 ({ZZ with kind:=39,n:=0})))] ?_
 refine it Z (B2t (c:=A2) (xs:=[{ZZ with kind:=39,n:=0}]) N3 Z Z Z oki) fun g=>?_
 let A:=bx b (B7 to_) 63
 have:([{ZZ with kind:=39,n:=0}]:jz).length=1:=rfl
 refine bY 1 4 [] [(5,ag (B7 ZJ))] ?_
 refine ix Z (G6 (us:=B7 _) B4w Z Z 1) ?_
 obtain ⟨i,h,hR⟩:=C3 hR
 refine it Z (N9 (L2:=((vo A2 51 (⟨some g,1,[]⟩:VR) ([{ZZ with kind:=39,n:=0}]:jz))++(A::[]))) (C6c (from_:=ZJ) (to_:=to_) h) Z Z Z Z Z bX jK (fun ⟨e,a⟩=>(A::((vo A2 51 e i)++((vo A2 51 (⟨some g,1,[]⟩:VR) ([{ZZ with kind:=39,n:=0}]:jz))++([]))))) (fun ⟨e,a⟩=>I8 [vo A2 51 e i,vo A2 51 (⟨some g,1,[]⟩:VR) ([{ZZ with kind:=39,n:=0}]:jz),[A]] [2,0,1] 3 Z ozw opv [[A],vo A2 51 e i,vo A2 51 (⟨some g,1,[]⟩:VR) ([{ZZ with kind:=39,n:=0}]:jz)] Z opv)) fun ⟨e,a⟩=>?_
 have:=bT.le a
 have:=C2y ZJ to_;try rw [h] at this
 refine P2 [_] _ a opv (it Z (Y6 (f:=A2) (r:=(⟨some g,1,[]⟩:VR)) (xs:=([{ZZ with kind:=39,n:=0}]:jz)) (ys:=i) (pre:=[A]) (post:=[]) A0c jJ jJ Z Z Z Z Z Z Z Z (A5 0 Z) (show bT 6 1 _ from ⟨rfl,Nat.le_refl _,Nat.le_of_ble_eq_true Z⟩) ofv ofv) fun ⟨l,d⟩=>(bP 1 2 Z ?_))
 subst hR
 refine k_ ?_
 exact ci _
def C0z (l:jz):Int×Int :=
 (B5 (X2 l) fun (a:List UInt8×Int)=>((a.1.length:Int),a.2))
theorem D7q {l:jz} {lq:kQ} {lk:Nat} {R:Int×Int} (hR:C0z l=R) (g:l.length≤9223372036854775807:=by exact bW) (i:l.length≤lk:=by exact bW) (c:∀ a ∈ l,C3w a:=by exact bW) (f:l.length≤2000:=by exact bW):J7 prog 67 [.slice lq l.length lk] [sl A2 lq l,A1o,A1p,M1,P0] (.tuple #[iv R.1,iv R.2]):=by
 refine cD Tryz.func67 fun X hX hr hD=>?_
 rw[C0z]at hR
 refine k_ ?_
 refine ie (k_ ?_)
 obtain ⟨j,d,hR⟩:=C3 hR
 refine zc Z (B3m d bW bW (by first|exact C1f hel|exact A5d hbm|exact A5d (C1c hwq.1 _)|exact fun x b=>⟨by rw [(c x b).2];exact Nat.zero_le _,by rw [(c x b).1];decide⟩|exact fun x b=>hnt x b|assumption|decide|exact fun x b=>Nat.le_trans (hrow x b) ozw|exact fun x b=>Nat.le_trans (of_decide_eq_true (List.all_eq_true.1 hbt x b)) ozw|(intro x b;simp only [List.nil_append,List.mem_append] at b;rcases b with b|b<;>first|exact Nat.le_trans (hrow x b) ozw|exact Nat.le_trans (hpt x b) ozw)|(intro x b;rw [List.mem_singleton.1 b];omega)|exact fun x b=>Nat.le_trans (hrow x (List.mem_of_mem_take b)) ozw|exact fun x b=>Nat.le_trans (hrow x (List.mem_of_mem_drop b)) ozw|exact fun x b=>Nat.le_trans (hrow x (List.mem_of_mem_drop (List.mem_of_mem_take b))) ozw|omega)) fun ⟨k,e⟩=>?_
 try have:=A9l l (fun x b=>Nat.le_trans (hrow x (by first|exact b|exact List.mem_of_mem_take b|exact List.mem_of_mem_drop b)) ozw);try rw [d] at this
 refine k_ ?_
 refine ie (k_ ?_)
 subst hR
 exact ie (A8 (B6u hr hD))
def A8s (from_:Sty) (to_:Sty):jz×Int :=
 (B5 (A6h from_ to_) fun (a:jz×Int)=>(bif ((!decide (a.2=0))||(decide (from_=to_))) then (([]:jz),a.2) else (B5 (B5r to_) fun (b:jz)=>(B5 (C0z a.1) fun (d:Int×Int)=>(B5 (C0z b) fun (c:Int×Int)=>(bif (((!decide (d.2=0))||(!decide (c.2=0)))||(decide (d.1≤c.1))) then (a.1,0) else (b,0)))))))
theorem B4q (f t:Sty):(A8s f t).1.length≤22:=by
 have h:=C2n f t;have a:=C8n t
 unfold A8s;simp only [B5,Bool.cond_eq_ite];grind
theorem B1d (f t:Sty):∀ a ∈ (A8s f t).1,C3w a:=by
 have h:=C2u f t;have b:=C7z t
 unfold A8s;simp only [B5,Bool.cond_eq_ite];grind
theorem ojv {p:Prop} (h:p:=by first|assumption|omega):p:=h
theorem D2q {R:jz×Int} (hR:A8s from_ to_=R):cM prog 40 [ag (B7 from_),ag (B7 to_)] [] [A1o,A1p,M1,P0] ({r:VR // bT 6 R.1.length r}) (fun x=>.tuple #[.slice (va x.1.q) R.1.length x.1.k,iv R.2]) (fun x=>((vo A2 51 x.1 R.1)++([]))) (fun x=>[]):=by
 refine cD Tryz.func40 fun X hX hr hD=>?_
 rw[A8s]at hR
 refine bS Z (B3r 4 [] (fun p t=>[(2,pt p 0),(3,pt t 0)]) (fun _ _=>(B7 from_)) (fun _ _=>(B7 to_)) 63 63 fun p t=>(ie (bS Z (bY 2 6 [1,0] [(13,ag (B7 from_)),(14,ag (B7 to_))] ?_))))
 obtain ⟨z,f,hR⟩:=C3 hR
 refine zc Z (D9l f) fun ⟨y,c⟩=>?_
 have:=bT.lc c
 have:=C2n from_ to_;try rw [f] at this
 have:=C2u from_ to_;try rw [f] at this
 refine cF 5 6 7 Z (ie (A3 (bS Z (bP 3 20 Z ?_))))
 refine zio 4 0 20 24 (decide (from_=to_)) (fun v=>?_) ?_
 ·have a4:=bV v
  refine bY 2 2 [1,0] [(21,ag _),(22,ag _)] (ix Z (A3m (a:=from_) (b:=to_) E0h Z Z Z) (bP 1 24 Z ?_))
  exact A1 (I1 5 20 _ v A7.refl bU Z Z Z Z Z)
 refine ie ?_
 refine zjb Z hR ?_ ?_<;>intro hR u
 ·have n:=bV u
  refine bS Z (cF 3 4 5 Z ?_)
  subst hR
  refine ie (A8 ?_)
  exact cy ⟨_,bT.nil⟩
 have n:=bV u
 refine A4 (nx (bS Z (bY 1 2 [0] [(26,ag (B7 to_))] ?_)))
 obtain ⟨a0,e,hR⟩:=C3 hR
 refine zc Z (E8d e) fun ⟨r7,d⟩=>?_
 have:=bT.lc d
 have:=C8n to_;try rw [e] at this
 have:=C7z to_;try rw [e] at this
 refine bP 1 8 Z (ie (bS Z (bP 1 29 Z ?_)))
 have:=bT.lc c
 obtain ⟨y4,o,hR⟩:=C3 hR
 refine zc Z (cM.lend (T:=51) c (D7q o bW bW ojv)) fun _=>?_
 refine cF 5 9 7 Z (ie (bS Z (bP 1 34 Z ?_)))
 have:=bT.lc d
 obtain ⟨j,h,hR⟩:=C3 hR
 refine zc Z (cM.lend (T:=51) d (D7q h bW bW ojv)) fun _=>?_
 refine cF 5 10 11 Z (ie (A3 (bS Z (bP 3 40 Z ?_))))
 refine zio 3 5 40 43 (!decide (j.2=0)) (fun s=>?_) ?_
 ·have a2:=bV s
  refine bP 3 43 Z ?_
  exact A1 (I1 2 40 _ s A7.refl bU Z Z Z Z Z)
 refine bP 1 44 Z ?_
 refine zio 4 0 44 48 (decide (y4.1≤j.1)) (fun l=>?_) ?_
 ·have w:=bV l
  refine bP 4 48 Z ?_
  exact A1 (I1 2 44 _ l A7.refl bU Z Z Z Z Z)
 refine ie ?_
 refine zjb Z hR ?_ ?_<;>intro hR m
 ·have i:=bV m
  refine bS Z (cF 3 4 5 Z ?_)
  subst hR
  refine ie (A8 ?_)
  exact cy ⟨y,c⟩
 have i:=bV m
 refine A4 (nx (bS Z (cF 3 4 5 Z ?_)))
 subst hR
 refine ie (A8 ?_)
 exact cy ⟨r7,d⟩
end
section
open Go Go.Fen open Tryz (prog)
variable {R:Bool} {c:Cel}
theorem E4x:EqT prog 71 D0:=EqT.of 20 Z oki oki (fun _ _=>by kernel_rfl) D0.inj
def B5i (c:Cel):Bool :=
 (decide (c={ZV with wide:=2,sty:=c.sty}))
theorem E9j (hR:B5i c=R):J7 prog 121 [ag (D0 c)] [] (bv R):=by
 refine cD Tryz.func121 fun X hX hr hD=>?_
 rw[B5i]at hR
 refine bS Z (cI 2 [] (fun d=>[(1,pt d 0)]) (fun _=>(D0 c)) 71 fun d=>(ie (bS Z (bY 4 2 [0,0] [(3,ag _),(6,ag _)] (ix Z (A3m (a:=c) (b:={ZV with wide:=2,sty:=c.sty}) E4x Z Z Z) (bP 1 2 Z ?_))))))
 subst hR
 exact q8
def B4h (l:Ar2):Bool :=
 (bif ((!decide (l.a=0))&&(!decide ((A6b l.a)=0))) then false else (bif ((!decide (l.b=0))&&((decide (l.a=0))||(!decide ((A6b l.b)=0)))) then false else true))
theorem E2d {l:Ar2} (hR:B4h l=R):J7 prog 122 [ag (A3a l)] [A1o,A1p] (bv R):=by
 refine cD Tryz.func122 fun X hX hr hD=>?_
 rw[B4h]at hR
 refine bS Z (cI 2 [] (fun g=>[(1,pt g 0)]) (fun _=>(A3a l)) 69 fun g=>(ie (bS Z (bP 1 3 Z (ie (A3 (bS Z (bY 2 0 [0] [(6,ag (A3a l)),(7,iv 0)] (ie (A9 (A1g 4 ?_)))))))))))
 refine E9 (bS Z (bP 1 8 Z (ie (A3 (K1 Z (A4 (nx (A3 (A9 (bS Z (ix Z (F3 Tryz.underlying69 cE Z Z Z 0) (bP 1 5 Z (ie (A3 (bS Z (bP 3 12 Z ?_))))))))))))))))
 refine zia 7 0 12 19 (!decide ((A6b l.a)=0)) (fun i=>?_) ?_
 ·have m:=bV i
  refine cF 3 14 15 Z (zv Z (C1x Z) (bP 3 19 Z ?_))
  exact zai 5 12 _ i
 refine ie ?_
 refine zjb Z hR ?_ ?_<;>intro hR h
 ·have e:=bV h
  refine bS Z (bP 1 2 Z ?_)
  subst hR
  exact q8
 refine A4 (nx (A0 6 Z (bP 6 3 Z (A1 (nx (A0 2 Z (ix Z (B1 (c:=1)) (bP 1 7 Z (A1 (E9 (bS Z (bP 1 8 Z (ie (A3 (K1 Z (A4 (nx (A3 (A9 (bS Z (ix Z (F3 Tryz.underlying69 cE Z Z Z 1) (bP 1 5 Z (ie (A3 (bS Z (bP 3 12 Z ?_))))))))))))))))))))))))))
 refine zia 7 0 12 19 ((decide (l.a=0))||(!decide ((A6b l.b)=0))) (fun f=>?_) ?_
 ·have n:=bV f
  refine bP 2 14 Z ?_
  refine zir 4 1 14 18 (!decide ((A6b l.b)=0)) (fun o p=>?_) ?_
  ·refine bP 1 15 Z (zv Z (C1x Z) (bP 2 18 Z ?_))
   exact zai 4 14 _ o
  refine bP 1 19 Z ?_
  exact zai 4 12 _ f
 refine ie ?_
 refine zjb Z hR ?_ ?_<;>intro hR j
 ·have d:=bV j
  refine bS Z (bP 1 2 Z ?_)
  subst hR
  exact q8
 refine A4 (nx (A0 6 Z (bP 2 21 Z ?_)))
 refine zir 3 1 21 24 (decide (l.b=0)) (fun q k=>?_) ?_
 ·refine bP 3 24 Z ?_
  exact zai 2 21 _ q
 refine bP 1 3 Z (A1 (nx (A0 2 Z (ix Z (B1 (c:=2)) (bP 1 7 Z (A1 (E9 (bS Z (bP 1 8 Z (ie (A3 (A5t Z (F1 (nx (bS Z (bP 1 2 Z ?_))))))))))))))))
 subst hR
 exact q8
def A1q (c:Cel):Int :=
 (bif ((!((B5i c)||((((decide ((0:Int)≤c.wide))&&(decide (c.wide≤1)))&&(decide ((A6b c.base)=(IntKind.i64.wrap (c.wide+(1:Int))))))&&(B4h c.marks))))||(!decide ((G2 c.sty)=0))) then 221 else 0)
theorem D3p {R:Int} (hR:A1q c=R):J7 prog 79 [ag (D0 c)] [A1o,A1p] (iv R):=by
 refine cD Tryz.func79 fun X hX hr hD=>?_
 rw[A1q]at hR
 refine k_ ?_
 refine cI 2 [] (fun e=>[(1,pt e 0)]) (fun _=>(D0 c)) 71 fun e=>?_
 refine ie (sd 27 Z oki Z ?_)
 refine zdg 1 26 [0] [(4,ag (D0 c))] ?_
 refine zvd Z (E9j Z) ?_
 refine k_ ?_
 refine zdO _ 1 6 29 ((((decide (0≤c.wide))&&(decide (c.wide≤1)))&&(decide ((A6b c.base)=(IntKind.i64.wrap (c.wide+1)))))&&(B4h c.marks)) (fun j=>?_) ?_
 ·refine pg1 4 [0] 10 Z ?_
  refine zdd 4 15 10 14 (decide (c.wide≤1)) (fun m k=>?_) ?_
  ·refine pg1 4 [0] 14 Z ?_
   exact zad 2 10 _ m
  refine k_ ?_
  refine zda 8 6 15 23 (decide ((A6b c.base)=(IntKind.i64.wrap (c.wide+1)))) (fun b=>?_) ?_
  ·have i:=bV b
   refine pg1 2 [0] 17 Z ?_
   refine zvd Z (C1x Z) ?_
   refine pg1 2 [0] 20 Z ?_
   refine dd Z (J8.pure Z) (pd1 2 23 Z ?_)
   exact zad 6 15 _ b
  refine k_ ?_
  refine zda 4 1 24 28 (B4h c.marks) (fun f=>?_) ?_
  ·have l:=bV f
   refine zdg 2 2 [0] [(26,ag (A3a c.marks))] ?_
   refine zvd Z (E2d Z) ?_
   refine k_ ?_
   exact zad 4 24 _ f
  refine k_ ?_
  exact zad 8 6 _ j
 refine k_ ?_
 refine zio 5 0 32 37 (!decide ((G2 c.sty)=0)) (fun d=>?_) ?_
 ·have h:=bV d
  refine bY 2 3 [0] [(34,ag (B7 c.sty))] ?_
  refine zv Z (A8r Z) ?_
  refine bP 2 37 Z ?_
  exact zai 4 32 _ d
 refine ie ?_
 refine zjb Z hR ?_ ?_<;>intro hR g
 ·have a:=bV g
  refine k_ ?_
  subst hR
  exact q8
 refine k_ ?_
 subst hR
 exact q8
def A2e:jk→Nat→Cel→Int
 | [],t19,last=>(bif (decide (last.wide=1)) then 220 else 0)
 | hd_l0::tl_l0,t19,last=>(bif (((!decide ((A1q hd_l0)=0))||(!((decide (last.wide=1)) == (decide (hd_l0.wide=2)))))||((decide (hd_l0.wide=2))&&(!(decide (hd_l0.sty=last.sty))))) then 220 else A2e tl_l0 (t19+1) hd_l0)
def W7 (bB:jk) (bC:Bool):Int :=
 (bif ((decide ((bB.length:Int)<2))||(decide ((80:Int)<(bB.length:Int)))) then 220 else A2e bB 0 ZV)
theorem F2k (h:B5i c=true):c.wide=2:=by unfold B5i at h;grind
theorem F2o (h:A1q c=0):0≤c.wide∧c.wide≤2:=by grind[A1q,F2k]
theorem E0z:∀ (l:jk) (t:Nat) (last:Cel),A2e l t last=0→∀ c ∈ l,0≤c.wide∧c.wide≤2
 | [],_,_,_=>fun c a=>by cases a
 | x::l,t,last,h=>by
  rw [A2e] at h
  by_cases h0:A1q x=0
  ·intro c a
   rcases List.mem_cons.1 a with rfl | a
   ·exact F2o h0
   ·cases hb:(((!decide ((A1q x)=0))||(!((decide (last.wide=1)) == (decide (x.wide=2)))))||((decide (x.wide=2))&&(!(decide (x.sty=last.sty))))) with
    | true=>grind
    | false=>rw [hb] at h;exact E0z l (t+1) x h c a
  grind
theorem B6p {l:jk} {w:Bool} (h:W7 l w=0):2≤l.length∧l.length≤80∧∀ c ∈ l,0≤c.wide∧c.wide≤2:=by
 unfold W7 at h
 by_cases hl:2≤l.length∧l.length≤80
 ·rw [show ((decide ((l.length:Int)<2))||(decide ((80:Int)<(l.length:Int))))=false by grind] at h
  exact ⟨hl.1,hl.2,E0z l 0 ZV h⟩
 grind
theorem D1v {bB:jk} {bC:Bool} {aY:kQ} {bA:Nat} {R:Int} (hR:W7 bB bC=R) (y:bB.length≤9223372036854775807:=by exact bW) (bG:bB.length≤bA:=by exact bW):J7 prog 48 [ag [.slice aY bB.length bA,bv bC]] [sl D0 aY bB,A1o,A1p] (iv R):=by
 refine cD Tryz.func48 fun X hX hr hD=>?_
 rw[W7]at hR
 refine bS Z (cI 2 [] (fun l=>[(1,pt l 0)]) (fun _=>[.slice aY bB.length bA,bv bC]) 85 fun l=>(ie (A3 (bS Z (cB 4 [0] 3 Z (ie (bS Z (bP 3 12 Z ?_))))))))
 refine zir 3 0 12 15 (decide (80<(bB.length:Int))) (fun u w=>?_) ?_
 ·refine bP 3 15 Z ?_
  exact zai 2 12 _ u
 refine ie ?_
 refine zjo Z hR ?_ ?_<;>intro hR h3 v
 ·refine bS Z (bP 1 2 Z ?_)
  subst hR
  exact q8
 refine A4 (nx (bS Z (cI 1 [] (fun i=>[(4,_)]) _ _ fun i=>(ie (A3 (bS Z (pl3 4 [1] 17 18 19 Z (ie (A9 (A1y (un fun d last=>(d≤bB.length∧A2e (bB.drop d) d last=R,[(4,pt i 0),(17,_),(18,iv _),(19,iv d)],[bx i (D0 last) 71,_],_,bB.length - d)) (0,_) ⟨opx,hR⟩ bU A7.refl ?_))))))))))
 rintro ⟨d,last⟩ ⟨x,hR⟩
 refine bS Z (bP 1 20 Z (ie (A3 (G3 Z (fun o=>?_) (fun o=>?_)))))
 ·have g:=bV o
  rw [A1a ZV (show d<bB.length by omega)] at hR;rw[A2e]at hR
  refine A4 (nx (A3 (A9 (bS Z (H8 0 Z opx fun z e=>(ix Z (E7 A1n Z Z e Z d) (ix Z (J0 D3g Z Z (F8 (sz:=12) e jJ 0 Z (gd ZV opx)) Z) ?_)))))))
  refine cI 2 [0] (fun m=>[(6,pt m 0)]) (fun _=>(D0 (bB.getD d ZV))) 71 fun m=>?_
  refine ie (A3 (bS Z (bY 1 23 [0] [(23,ag (D0 (bB.getD d ZV)))] (zv Z (D3p Z) (bP 2 26 Z ?_)))))
  refine zio 8 12 26 34 (!((decide (last.wide=1)) == (decide ((bB.getD d ZV).wide=2)))) (fun k=>?_) ?_
  ·have q:=bV k
   refine pl2 6 [1,0] 29 32 Z (ix Z (E2y Tryz.underlying4 Z Z Z) (bP 1 34 Z ?_))
   exact zai 5 26 _ k
  refine bP 1 35 Z ?_
  refine zio _ 0 35 46 ((decide ((bB.getD d ZV).wide=2))&&(!(decide ((bB.getD d ZV).sty=last.sty)))) (fun h=>?_) ?_
  ·have p:=bV h
   refine cB 4 [0] 39 Z ?_
   refine zid 6 1 39 45 (!(decide ((bB.getD d ZV).sty=last.sty))) (fun n s=>?_) ?_
   ·refine bY 4 2 [0,1] [(41,ag _),(43,ag _)] (ix Z (A0f (a:=(bB.getD d ZV).sty) (b:=last.sty) E0h Z Z Z) (bP 1 45 Z ?_))
    exact zai 5 39 _ n
   refine bP 1 46 Z ?_
   exact zai 4 35 _ h
  refine ie ?_
  refine zjb Z hR ?_ ?_<;>intro hR f
  ·have j:=bV f
   refine bS Z (bP 1 2 Z ?_)
   subst hR
   exact q8
  refine A4 (nx (A0 2 Z (zrg 2 0 [0,1] [] [bx m (D0 (bB.getD d ZV)) 71,bx i (D0 (bB.getD d ZV)) 71,bx l [.slice aY bB.length bA,bv bC] 85] (A1 (nx (A0 2 Z (ix Z B1 (bP 1 19 Z (A1 ?_)))))))))
  exact z0 (_,_) ⟨opx,hR⟩
 have g:=bV o
 rw [A1b g] at hR;rw[A2e]at hR
 refine F1 (nx (A3 (bS Z (cB 3 [0] 51 Z (ie ?_)))))
 refine cK Z hR ?_ ?_<;>intro hR t r
 ·refine bS Z (bP 1 2 Z ?_)
  subst hR
  exact q8
 refine A4 (nx (bS Z (bP 1 2 Z ?_)))
 subst hR
 exact q8
end
end Go.Proofs.YtmldjljkeigpnaaGreatDoor
namespace Go.Proofs.YtmldjljkeigpnaaGreatDoor
open Go Go.Fen
theorem G0f:EqT Tryz.prog 69 A3a:=EqT.of 20 Z oki oki (fun _ _=>by rfl) A3a.inj
def B1n (c:Cel):Bool :=
 ((decide (c.wide=0))&&(decide (c.marks=Ar2.zero)))
theorem C8m {c:Cel} {R:Bool} (hR:B1n c=R):J7 Tryz.prog 206 [ag (D0 c)] [] (bv R):=by
 refine cD Tryz.func206 fun X hX hr hD=>?_
 rw[B1n]at hR
 refine bS Z (cI 2 [] (fun d=>[(1,pt d 0)]) (fun _=>(D0 c)) 71 fun d=>(ie (bS Z (cB 4 [0] 6 Z ?_))))
 refine zid 5 1 6 11 (decide (c.marks=Ar2.zero)) (fun e f=>?_) ?_
 ·refine bY 3 2 [0] [(8,ag _),(9,ag _)] (ix Z (A3m (a:=c.marks) (b:=Ar2.zero) G0f Z Z Z) (bP 1 11 Z ?_))
  exact A1 (I1 5 6 _ e bX bU Z Z Z Z Z)
 refine bP 1 2 Z ?_
 subst hR
 exact q8
structure Prn where
 sign:Cel
 many:Int
 at_:Int
 til:Int
deriving DecidableEq
def G7 (x:Prn):List Value:=D0 x.sign++([.int .i64 x.many,.int .i64 x.at_,.int .i64 x.til])
def Prn.zero:Prn:=⟨ZV,0,0,0⟩
theorem F7l {c0 c1:Int} {c2:jk} {r:Prn} (d:(∀ c ∈ c2,0≤c.wide∧c.wide≤2)∧c2.length≤80∧0≤c0∧c1≤c2.length) (h:r.til<c1∧c2.getD r.til.toNat ZV=r.sign) (e:0≤r.til):0≤r.sign.wide∧r.sign.wide≤2:=by grind
def K7 (l:jk) (from_:Int) (to_:Int):Int×Int×jk :=
 (from_,to_,l)
theorem E3o {l:jk} {from_ to_:Int} {lq:kQ} {lk:Nat} {R:Int×Int×jk} (hR:K7 l from_ to_=R) (d:l.length≤9223372036854775807:=by exact bW) (e:l.length≤lk:=by exact bW):cM Tryz.prog 104 [.slice lq l.length lk,iv from_,iv to_] [] [sl D0 lq l] (Nat×Addr×Addr×{t:kQ×Nat // R.2.2.length≤t.2∧R.2.2.length≤9223372036854775807}) (fun x=>.func (.func 161) #[] #[pt x.1 0,pa x.2.1,pa x.2.2.1]) (fun x=>[bx x.1 [iv R.1] 3]) (fun x=>[at_ x.2.1 [iv R.2.1],at_ x.2.2.1 [.slice x.2.2.2.1.1 R.2.2.length x.2.2.2.1.2],sl D0 x.2.2.2.1.1 R.2.2]):=by
 refine cD Tryz.func104 fun X hX hr hD=>?_
 rw[K7]at hR
 refine k_ ?_
 refine it Z (A2s Z Z Z) fun b=>(A6p 0 Z (cI 1 [] (fun a=>[(4,pt a 0)]) (fun _=>[iv from_]) 3 fun a=>?_))
 refine it Z (A2s Z Z Z) fun c=>(A6p 0 Z (k_ ?_))
 refine ie (kc_ ?_)
 refine ip' 2 0 [(6,.func (.func 161) #[] #[pt a 0,pa ⟨c,0,none⟩,pa ⟨b,0,none⟩])] ?_
 subst hR
 refine k_ ?_
 exact ci (a,_,_,(zq _ _))
end Go.Proofs.YtmldjljkeigpnaaGreatDoor
