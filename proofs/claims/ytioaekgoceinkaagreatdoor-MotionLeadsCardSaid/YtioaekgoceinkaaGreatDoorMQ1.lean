import Derived.Test.YtioaekgoceinkaaGreatDoorProg
import Derived.Test.YtioaekgoceinkaaGreatDoorMA2
import Derived.Test.YtioaekgoceinkaaGreatDoorMB1
import Derived.Test.YtioaekgoceinkaaGreatDoorMA3
import Derived.Test.YtioaekgoceinkaaGreatDoorMB2
import Derived.Test.YtioaekgoceinkaaGreatDoorMB3
set_option linter.unusedVariables false
set_option linter.unusedSimpArgs false
set_option linter.unnecessarySimpa false
set_option maxRecDepth 100000
namespace Go.Proofs.YtioaekgoceinkaaGreatDoor
open Go Go.Fen
theorem E3r:ApTy Tryz.prog 41 4 1 1:=⟨by kernel_rfl,by kernel_rfl,rfl⟩
theorem E2s:ApTy Tryz.prog 114 190 12 96:=⟨by kernel_rfl,by kernel_rfl,rfl⟩
theorem D7v:SlTy Tryz.prog 41 4 1:=⟨by kernel_rfl,by kernel_rfl⟩
theorem B4k:SlTy Tryz.prog 114 190 12:=⟨by kernel_rfl,by kernel_rfl⟩
theorem E4p:Ty Tryz.prog 40 13 true:=⟨by kernel_rfl⟩
theorem C6i:Ty Tryz.prog 116 2 true:=⟨by kernel_rfl⟩
theorem D3v:Ty Tryz.prog 190 12 true:=⟨by kernel_rfl⟩
theorem E3k:Zero Tryz.prog 4 [bv false]:=⟨by kernel_rfl⟩
theorem D8w:Zero Tryz.prog 190 (G4 Cel.zero):=⟨by kernel_rfl⟩
structure Cur where
 row:Int
 col:Int
 wrap:Bool
deriving DecidableEq
def B8 (x:Cur):List Value:=[.int .i64 x.row,.int .i64 x.col,.bool x.wrap]
def Cur.zero:Cur:=⟨0,0,false⟩
theorem B8.inj (x y:Cur) (h:B8 x=B8 y):x=y:=by
 rcases x with ⟨_,_,_⟩
 rcases y with ⟨_,_,_⟩
 simp [B8,bs] at h
 simp_all
structure Pth where
 frm:Cur
 to_:Plc
deriving DecidableEq
def H5 (x:Pth):List Value:=B8 x.frm++(X5 x.to_)
def Pth.zero:Pth:=⟨Cur.zero,Plc.zero⟩
theorem H5.inj (x y:Pth) (h:H5 x=H5 y):x=y:=by
 rcases x with ⟨⟨_,_,_⟩,⟨_,_⟩⟩
 rcases y with ⟨⟨_,_,_⟩,⟨_,_⟩⟩
 simp [B8,X5,H5,bs] at h
 simp_all
structure Ar4 where
 a:Int
 b:Int
 c:Int
 d:Int
deriving DecidableEq
def C6k (x:Ar4):List Value:=[.int .i64 x.a,.int .i64 x.b,.int .i64 x.c,.int .i64 x.d]
def Ar4.zero:Ar4:=⟨0,0,0,0⟩
theorem C6k.inj (x y:Ar4) (h:C6k x=C6k y):x=y:=by
 rcases x with ⟨_,_,_,_⟩
 rcases y with ⟨_,_,_,_⟩
 simp [C6k,bs] at h
 simp_all
structure Sts where
 g:Ar4
 used:Int
 once:Int
deriving DecidableEq
def B7j (x:Sts):List Value:=C6k x.g++([.int .i64 x.used,.int .i64 x.once])
def Sts.zero:Sts:=⟨Ar4.zero,0,0⟩
theorem B7j.inj (x y:Sts) (h:B7j x=B7j y):x=y:=by
 rcases x with ⟨⟨_,_,_,_⟩,_,_⟩
 rcases y with ⟨⟨_,_,_,_⟩,_,_⟩
 simp [C6k,B7j,bs] at h
 simp_all
structure Mod where
 insert:Bool
 newline:Bool
 cursorKeys:Bool
 inverse:Bool
 origin:Bool
 auto:Bool
 visible:Bool
 paste:Bool
 focus:Bool
 sync:Bool
 keypad:Bool
 mouse:Int
 mouseSgr:Bool
deriving DecidableEq
def A8z (x:Mod):List Value:=[.bool x.insert,.bool x.newline,.bool x.cursorKeys,.bool x.inverse,.bool x.origin,.bool x.auto,.bool x.visible,.bool x.paste,.bool x.focus,.bool x.sync,.bool x.keypad,.int .i64 x.mouse,.bool x.mouseSgr]
def Mod.zero:Mod:=⟨false,false,false,false,false,false,false,false,false,false,false,0,false⟩
theorem A8z.inj (x y:Mod) (h:A8z x=A8z y):x=y:=by
 rcases x with ⟨_,_,_,_,_,_,_,_,_,_,_,_,_⟩
 rcases y with ⟨_,_,_,_,_,_,_,_,_,_,_,_,_⟩
 simp [A8z,bs] at h
 simp_all
structure Sav where
 is_:Bool
 cursor:Cur
 style:Sty
 sets:Sts
 origin:Bool
deriving DecidableEq
def B1u (x:Sav):List Value:=[.bool x.is_]++(B8 x.cursor++(A0c x.style++(B7j x.sets++([.bool x.origin]))))
def Sav.zero:Sav:=⟨false,Cur.zero,Sty.zero,Sts.zero,false⟩
theorem B1u.inj (x y:Sav) (h:B1u x=B1u y):x=y:=by
 rcases x with ⟨_,⟨_,_,_⟩,⟨_,_,⟨_,_⟩,⟨_,_⟩,⟨_,_⟩⟩,⟨⟨_,_,_,_⟩,_,_⟩,_⟩
 rcases y with ⟨_,⟨_,_,_⟩,⟨_,_,⟨_,_⟩,⟨_,_⟩,⟨_,_⟩⟩,⟨⟨_,_,_,_⟩,_,_⟩,_⟩
 simp [C6k,U0,B8,B1u,B7j,A0c,bs] at h
 simp_all
structure Pln where
 cols:Int
 rows:Int
 top:Int
 bottom:Int
 shape:Int
 last:Int
 onAlt:Bool
 cursor:Cur
 style:Sty
 sets:Sts
 modes:Mod
 kept:Sav
 keptAlt:Sav
 title:List UInt8
deriving DecidableEq
def C6x (x:Pln):List Value:=[.int .i64 x.cols,.int .i64 x.rows,.int .i64 x.top,.int .i64 x.bottom,.int .i64 x.shape,.int .i64 x.last,.bool x.onAlt]++(B8 x.cursor++(A0c x.style++(B7j x.sets++(A8z x.modes++(B1u x.kept++(B1u x.keptAlt++([.string (bs x.title)])))))))
def Pln.zero:Pln:=⟨0,0,0,0,0,0,false,Cur.zero,Sty.zero,Sts.zero,Mod.zero,Sav.zero,Sav.zero,[]⟩
theorem C6x.inj (x y:Pln) (h:C6x x=C6x y):x=y:=by
 rcases x with ⟨_,_,_,_,_,_,_,⟨_,_,_⟩,⟨_,_,⟨_,_⟩,⟨_,_⟩,⟨_,_⟩⟩,⟨⟨_,_,_,_⟩,_,_⟩,⟨_,_,_,_,_,_,_,_,_,_,_,_,_⟩,⟨_,⟨_,_,_⟩,⟨_,_,⟨_,_⟩,⟨_,_⟩,⟨_,_⟩⟩,⟨⟨_,_,_,_⟩,_,_⟩,_⟩,⟨_,⟨_,_,_⟩,⟨_,_,⟨_,_⟩,⟨_,_⟩,⟨_,_⟩⟩,⟨⟨_,_,_,_⟩,_,_⟩,_⟩,_⟩
 rcases y with ⟨_,_,_,_,_,_,_,⟨_,_,_⟩,⟨_,_,⟨_,_⟩,⟨_,_⟩,⟨_,_⟩⟩,⟨⟨_,_,_,_⟩,_,_⟩,⟨_,_,_,_,_,_,_,_,_,_,_,_,_⟩,⟨_,⟨_,_,_⟩,⟨_,_,⟨_,_⟩,⟨_,_⟩,⟨_,_⟩⟩,⟨⟨_,_,_,_⟩,_,_⟩,_⟩,⟨_,⟨_,_,_⟩,⟨_,_,⟨_,_⟩,⟨_,_⟩,⟨_,_⟩⟩,⟨⟨_,_,_,_⟩,_,_⟩,_⟩,_⟩
 simp [C6k,U0,B8,A8z,C6x,B1u,B7j,A0c,bs] at h
 simp_all
structure ScrC where
 cols:Int
 rows:Int
 onAlt:Bool
 cursor:Cur
 style:Sty
 sets:Sts
 modes:Mod
 top:Int
 bottom:Int
 kept:Sav
 keptAlt:Sav
 shape:Int
 title:List UInt8
 last:Int
deriving DecidableEq
def D4d (x:ScrC):List Value:=[.int .i64 x.cols,.int .i64 x.rows,.bool x.onAlt]++(B8 x.cursor++(A0c x.style++(B7j x.sets++(A8z x.modes++([.int .i64 x.top,.int .i64 x.bottom]++(B1u x.kept++(B1u x.keptAlt++([.int .i64 x.shape,.string (bs x.title),.int .i64 x.last]))))))))
def ScrC.zero:ScrC:=⟨0,0,false,Cur.zero,Sty.zero,Sts.zero,Mod.zero,0,0,Sav.zero,Sav.zero,0,[],0⟩
theorem D4d.inj (x y:ScrC) (h:D4d x=D4d y):x=y:=by
 rcases x with ⟨_,_,_,⟨_,_,_⟩,⟨_,_,⟨_,_⟩,⟨_,_⟩,⟨_,_⟩⟩,⟨⟨_,_,_,_⟩,_,_⟩,⟨_,_,_,_,_,_,_,_,_,_,_,_,_⟩,_,_,⟨_,⟨_,_,_⟩,⟨_,_,⟨_,_⟩,⟨_,_⟩,⟨_,_⟩⟩,⟨⟨_,_,_,_⟩,_,_⟩,_⟩,⟨_,⟨_,_,_⟩,⟨_,_,⟨_,_⟩,⟨_,_⟩,⟨_,_⟩⟩,⟨⟨_,_,_,_⟩,_,_⟩,_⟩,_,_,_⟩
 rcases y with ⟨_,_,_,⟨_,_,_⟩,⟨_,_,⟨_,_⟩,⟨_,_⟩,⟨_,_⟩⟩,⟨⟨_,_,_,_⟩,_,_⟩,⟨_,_,_,_,_,_,_,_,_,_,_,_,_⟩,_,_,⟨_,⟨_,_,_⟩,⟨_,_,⟨_,_⟩,⟨_,_⟩,⟨_,_⟩⟩,⟨⟨_,_,_,_⟩,_,_⟩,_⟩,⟨_,⟨_,_,_⟩,⟨_,_,⟨_,_⟩,⟨_,_⟩,⟨_,_⟩⟩,⟨⟨_,_,_,_⟩,_,_⟩,_⟩,_,_,_⟩
 simp [C6k,U0,B8,A8z,B1u,D4d,B7j,A0c,bs] at h
 simp_all
def B6 (x:ScrC) (c d b a:Slc):List Value:=[.int .i64 x.cols,.int .i64 x.rows,.slice c.q c.n c.k,.slice d.q d.n d.k,.bool x.onAlt,.slice b.q b.n b.k]++(B8 x.cursor++(A0c x.style++(B7j x.sets++(A8z x.modes++([.int .i64 x.top,.int .i64 x.bottom,.slice a.q a.n a.k]++(B1u x.kept++(B1u x.keptAlt++([.int .i64 x.shape,.string (bs x.title),.int .i64 x.last]))))))))
structure FrmC where
 cols:Int
 cursor:Plc
 visible:Bool
 shape:Int
 title:List UInt8
deriving DecidableEq
def D4f (x:FrmC):List Value:=[.int .i64 x.cols]++(X5 x.cursor++([.bool x.visible,.int .i64 x.shape,.string (bs x.title)]))
def FrmC.zero:FrmC:=⟨0,Plc.zero,false,0,[]⟩
theorem D4f.inj (x y:FrmC) (h:D4f x=D4f y):x=y:=by
 rcases x with ⟨_,⟨_,_⟩,_,_,_⟩
 rcases y with ⟨_,⟨_,_⟩,_,_,_⟩
 simp [D4f,X5,bs] at h
 simp_all
def A2e:Mod :=
 {Mod.zero with auto:=true,visible:=true}
theorem D3h {R:Mod} (hR:A2e=R):G3 Tryz.prog 16 [] [] (ag (A8z R)):=by
 refine zce Tryz.func16 fun X hX hr hD=>?_
 replace hR:=(A2e.eq_1 ..).symm.trans hR
 refine sR_ rfl (H9 1 0 [] (fun a=>[(0,pt a 0)]) (fun a=>[bx a (A8z Mod.zero) 40]) (fun a=>(ie (sR_ rfl (zrg 2 0 [0] [] [bx a (A8z ({Mod.zero with auto:=true,visible:=true})) 40] ?_)))))
 subst hR
 refine ie (A8 ?_)
 exact zer hr hD (O3 rfl (D4 (us:=A8z ({Mod.zero with auto:=true,visible:=true})) E4p rfl 0 rfl rfl rfl)) () sb_ fn0
def A0i (a:Int):Nat→List Bool→Nat→(List Bool×Int)
 | 0,_,_=>([],0)
 | fu1+1,t,k=>(bif (decide ((k:Int)<a)) then A0i a fu1 (t.set k true) (k+8) else (t,0))
def A1y (a:Int):List Bool×Int :=
 (bif ((decide (a<2))||(decide ((80:Int)<a))) then (([]:List Bool),2) else A0i a ((a - (8:Int)).toNat+1) (List.replicate ((a).toNat) false) 8)
theorem D2i {a:Int} {R:List Bool×Int} (hR:A1y a=R):Con Tryz.prog 15 [iv a] [] [] ({r:VR // VOk 1 R.1.length r}) (fun x=>.tuple #[.slice (va x.1.q) R.1.length x.1.k,iv R.2]) (fun x=>((vo N8 4 x.1 R.1)++([]))) (fun x=>[]):=by
 refine zce Tryz.func15 fun X hX hr hD=>?_
 replace hR:=(A1y.eq_1 ..).symm.trans hR
 refine sR_ rfl (pp0 2 rfl (ie (A5 (sR_ rfl (pp1 3 8 rfl ?_)))))
 refine zir 3 0 8 11 (decide ((80:Int)<a)) (fun w s=>?_) ?_
 ·refine pp1 3 11 rfl ?_
  exact A3 (P7 2 8 11 w fn0 sb_ rfl rfl rfl rfl rfl)
 refine ie ?_
 refine zjo rfl hR ?_ ?_<;>clear hR<;>intro hR h2 o
 ·refine sR_ rfl (pp2 2 2 3 rfl ?_)
  subst hR
  refine ie (A8 ?_)
  exact zer hr hD (U6 rfl (B9 rfl) (B9 rfl)) ⟨VR.nil,VOk.nil⟩ sb_ fn0
 refine A6 (nx (sR_ rfl (pp1 1 12 rfl (it rfl (C3t (f:=N8) (l:=(a).toNat) (c:=(a).toNat) false E3r E3k.ok (fun _=>rfl) rfl (by exact congrArg (fun z=>some (Value.int .i64 z)) (show a=(((a).toNat:Nat):Int) by omega)) (by exact congrArg (fun z=>some (Value.int .i64 z)) (show a=(((a).toNat:Nat):Int) by omega)) opx ofv opx) fun ⟨v,d⟩=>?_))))
 have:(List.replicate ((a).toNat) false).length=((a).toNat):=List.length_replicate
 have:=VOk.le d
 have:=VOk.cap d
 have:(List.replicate ((a).toNat) false).length=((a).toNat):=List.length_replicate
 refine pp1 1 4 rfl (ie (A5 (sR_ rfl (pp1 1 5 rfl (ie (B4 ?_))))))
 refine A5o (un fun (g:Nat)=>un fun (t:List Bool)=>un fun (e:VR) (k:Nat)=>((a - (k:Int)).toNat<g∧A0i a g t k=R∧VOk 1 t.length e∧t.length=a.toNat,[(0,iv a),(4,.slice (va e.q) t.length e.k),(5,iv (k:Int))],((vo N8 4 e t)++([])),[],g)) (((a - (8:Int)).toNat+1),List.replicate ((a).toNat) false,v,8) ⟨(Nat.lt_succ_self _),hR,d,(by exact List.length_replicate)⟩ sb_ fn0 ?_
 rintro ⟨g,t,e,k⟩ ⟨u,hR,b,y⟩
 have:=VOk.le b
 obtain ⟨fu1,rfl⟩:∃ m,g=m+1:=⟨g - 1,by omega⟩
 replace hR:=(A0i.eq_2 ..).symm.trans hR
 refine A5 (sR_ rfl (pp1 3 16 rfl ?_))
 refine ie ?_
 refine zjd rfl hR ?_ ?_<;>clear hR<;>intro hR h6 p
 ·refine A6 (nx (A5 (B4 (A1 4 rfl (pp2 2 19 20 rfl ?_)))))
  obtain ⟨b7,j⟩:=VOk.some b opx
  obtain ⟨n,h,i⟩:=e
  obtain rfl:n=some b7:=j
  refine ix rfl (C5t D7v rfl rfl rfl k rfl opx) (it rfl (B6w (us:=[bv true]) (u':=true) (c:=N8) (sz:=1) ty4 (fun _=>rfl) rfl rfl rfl 0 rfl rfl rfl rfl k 0 rfl (gd false opx) rfl rfl) fun _=>?_)
  refine A3 (nx (A1 3 rfl (pp1 1 17 rfl (ix rfl (C0 rfl rfl rfl rfl opx) (pp1 1 5 rfl (A3 ?_))))))
  exact A1r (z1:=(fu1+1,t,(⟨some b7,h,i⟩:VR),k)) (fu1,t.set k true,(⟨some b7,h,i⟩:VR),k+8) ⟨opx,hR,(VOk.cast b oom),(by (rw [List.length_set];exact y))⟩ (Nat.lt_succ_self _) sb_ fn0
 refine H3 (nx (sR_ rfl (pp2 3 2 3 rfl ?_)))
 subst hR
 refine ie (A8 ?_)
 exact zer hr hD (U6 rfl (B9 rfl) (B9 rfl)) ⟨e,b⟩ sb_ fn0
def M8 (s:Sty):Cel :=
 {Cel.zero with base:=32,sty:=s}
theorem D0a {s:Sty} {R:Cel} (hR:M8 s=R):G3 Tryz.prog 167 [ag (A0c s)] [] (ag (G4 R)):=by
 refine zce Tryz.func167 fun X hX hr hD=>?_
 replace hR:=(M8.eq_1 ..).symm.trans hR
 refine sR_ rfl (A8j 2 0 [] (fun a b=>[(1,pt a 0),(2,pt b 0)]) (fun a b=>[bx b (G4 Cel.zero) 190,bx a (A0c s) 35]) (fun a b=>(ie (sR_ rfl (zrg 3 0 [1,0] [] [bx b (G4 ({Cel.zero with base:=32,sty:=s})) 190,bx a (A0c s) 35] ?_)))))
 subst hR
 refine ie (A8 ?_)
 exact zer hr hD (O3 rfl (D4 (us:=G4 ({Cel.zero with base:=32,sty:=s})) D3v rfl 0 rfl rfl rfl)) () sb_ fn0
def A8a (x:Int) (y:Int):Int×Int :=
 ((IntKind.u64.wrap ((IntKind.u64.wrap ((IntKind.u64.wrap ((x / 4294967296) * (y / 4294967296)))+((IntKind.u64.wrap ((IntKind.u64.wrap ((x / 4294967296) * (bOp .and .u64 y 4294967295)))+((IntKind.u64.wrap ((bOp .and .u64 x 4294967295) * (bOp .and .u64 y 4294967295))) / 4294967296))) / 4294967296)))+((IntKind.u64.wrap ((bOp .and .u64 (IntKind.u64.wrap ((IntKind.u64.wrap ((x / 4294967296) * (bOp .and .u64 y 4294967295)))+((IntKind.u64.wrap ((bOp .and .u64 x 4294967295) * (bOp .and .u64 y 4294967295))) / 4294967296))) 4294967295)+(IntKind.u64.wrap ((bOp .and .u64 x 4294967295) * (y / 4294967296))))) / 4294967296))),(IntKind.u64.wrap (x * y)))
theorem B9o {x y:Int} {R:Int×Int} (hR:A8a x y=R):G3 Tryz.prog 281 [.int .u64 x,.int .u64 y] [] (.tuple #[.int .u64 R.1,.int .u64 R.2]):=by
 refine zce Tryz.func281 fun X hX hr hD=>?_
 replace hR:=(A8a.eq_1 ..).symm.trans hR
 refine sR_ rfl (pp0 2 rfl (ie (sR_ rfl (pp1 3 6 rfl (ie (sR_ rfl (pp1 1 16 rfl ?_)))))))
 refine ix rfl (Q8 (c:=x / 4294967296) rfl rfl rfl ozw (by simp [Int.fdiv_eq_ediv_of_nonneg,IntKind.bits])) (pp1 1 7 rfl (ie (sR_ rfl (pp1 3 8 rfl (ie (sR_ rfl (pp1 1 20 rfl ?_)))))))
 refine ix rfl (Q8 (c:=y / 4294967296) rfl rfl rfl ozw (by simp [Int.fdiv_eq_ediv_of_nonneg,IntKind.bits])) (pp1 1 9 rfl (ie (sR_ rfl (pp1 4 10 rfl (ie (sR_ rfl (pp2 4 27 28 rfl ?_)))))))
 refine ix rfl (Q8 (c:=(IntKind.u64.wrap ((bOp .and .u64 x 4294967295) * (bOp .and .u64 y 4294967295))) / 4294967296) rfl rfl rfl ozw (by simp [Int.fdiv_eq_ediv_of_nonneg,IntKind.bits])) (pp1 2 11 rfl (ie (sR_ rfl (pp1 3 12 rfl (ie (sR_ rfl (pp1 1 33 rfl ?_)))))))
 refine ix rfl (Q8 (c:=(IntKind.u64.wrap ((IntKind.u64.wrap ((x / 4294967296) * (bOp .and .u64 y 4294967295)))+((IntKind.u64.wrap ((bOp .and .u64 x 4294967295) * (bOp .and .u64 y 4294967295))) / 4294967296))) / 4294967296) rfl rfl rfl ozw (by simp [Int.fdiv_eq_ediv_of_nonneg,IntKind.bits])) (pp1 1 13 rfl (ie (sR_ rfl (pp1 6 12 rfl (ie (sR_ rfl (pp2 6 44 45 rfl ?_)))))))
 refine ix rfl (Q8 (c:=(IntKind.u64.wrap ((bOp .and .u64 (IntKind.u64.wrap ((IntKind.u64.wrap ((x / 4294967296) * (bOp .and .u64 y 4294967295)))+((IntKind.u64.wrap ((bOp .and .u64 x 4294967295) * (bOp .and .u64 y 4294967295))) / 4294967296))) 4294967295)+(IntKind.u64.wrap ((bOp .and .u64 x 4294967295) * (y / 4294967296))))) / 4294967296) rfl rfl rfl ozw (by simp [Int.fdiv_eq_ediv_of_nonneg,IntKind.bits])) (pp1 2 4 rfl (ie (sR_ rfl (pp1 4 5 rfl ?_))))
 subst hR
 refine ie (A8 ?_)
 exact A8m hr hD
def A3y (x:Int) (y:Int):Int×Int :=
 (C9 (A8a x y) fun (a:Int×Int)=>(a.1,a.2))
theorem wr6 {x:Int} (h:-1000000≤x∧x≤1000000):IntKind.i64.wrap x=x:=A1b (by show (-9223372036854775808:Int)≤_;omega) (by show _≤(9223372036854775807:Int);omega)
theorem D8b:∀ c<81,A3y 1 ((c:Nat):Int)=(0,((c:Nat):Int)):=by decide +kernel
theorem D3q (n:Nat) (c:Int) (a:n=1) (b:1≤c∧c≤80):A3y (IntKind.u64.wrap (n:Int)) (IntKind.u64.wrap c)=(0,c):=by
 obtain ⟨m,rfl⟩:∃ m:Nat,c=m:=⟨c.toNat,by omega⟩
 subst a
 rw [A1b (k:=.u64) (by show (0:Int)≤_;omega) (by show _≤(18446744073709551615:Int);omega),A1b (k:=.u64) (by show (0:Int)≤_;omega) (by show _≤(18446744073709551615:Int);omega)]
 exact D8b m opx
theorem C2u {x y:Int} {R:Int×Int} (hR:A3y x y=R):G3 Tryz.prog 240 [.int .u64 x,.int .u64 y] [] (.tuple #[.int .u64 R.1,.int .u64 R.2]):=by
 refine zce Tryz.func240 fun X hX hr hD=>?_
 replace hR:=(A3y.eq_1 ..).symm.trans hR
 refine sR_ rfl (pp0 2 rfl (ie (A5 (A0f rfl (A6 (nx (sR_ rfl (pp2 2 23 24 rfl ?_))))))))
 have b:=D0 hR;clear hR;obtain ⟨c,a,hR⟩:=b
 refine zv rfl (B9o a) (pp2 5 8 9 rfl (ie (sR_ rfl (pp2 4 4 5 rfl ?_))))
 subst hR
 refine ie (A8 ?_)
 exact A8m hr hD
def H2:Nat→List Cel→Nat→List Cel
 | 0,_,_=>[]
 | fu1+1,newslice,n=>(bif (decide ((n:Int)<(newslice.length:Int))) then H2 fu1 (newslice.take n++(newslice.take (min n (newslice.length - n):Nat)++newslice.drop (n+(min n (newslice.length - n):Nat)))) (n+(min n (newslice.length - n):Nat)) else newslice)
def N2 (x:List Cel) (count:Int):List Cel :=
 (C9 (A3y (IntKind.u64.wrap (x.length:Int)) (IntKind.u64.wrap count)) fun (a:Int×Int)=>H2 (((x.take (List.replicate ((IntKind.i64.wrap a.2).toNat) Cel.zero).length++(List.replicate ((IntKind.i64.wrap a.2).toNat) Cel.zero).drop x.length).length - (min x.length (List.replicate ((IntKind.i64.wrap a.2).toNat) Cel.zero).length:Nat))+1) (x.take (List.replicate ((IntKind.i64.wrap a.2).toNat) Cel.zero).length++(List.replicate ((IntKind.i64.wrap a.2).toNat) Cel.zero).drop x.length) (min x.length (List.replicate ((IntKind.i64.wrap a.2).toNat) Cel.zero).length:Nat))
theorem ort {p:Prop} (h:p:=by (constructor<;>first|omega|(simp only [List.length_append,List.length_take,List.length_drop,List.length_replicate]<;>omega))):p:=h
theorem A5e {x:List Cel} {count:Int} {xq:Option Addr} {xk:Nat} {R:List Cel} (hR:N2 x count=R) (a3:x.length≤9223372036854775807:=by exact om_) (a6:x.length≤xk:=by exact om_) (w:1≤count∧count≤80:=by exact om_) (s:x.length=1:=by exact om_):Con Tryz.prog 166 [.slice xq x.length xk,iv count] [] [sl G4 xq x] ({r:VR // VOk 12 R.length r}) (fun x=>.slice (va x.1.q) R.length x.1.k) (fun x=>((vo G4 190 x.1 R)++([]))) (fun x=>[]):=by
 refine zce Tryz.func166 fun X hX hr hD=>?_
 replace hR:=(N2.eq_1 ..).symm.trans hR
 refine sR_ rfl (pp0 1 rfl (ie (A5 (sR_ rfl (pp1 2 10 rfl ?_)))))
 refine ie (W8 rfl (fun v=>?_) (fun v=>?_))
 ·have t:=bq_ v
  exfalso;omega
 have t:=bq_ v
 refine A6 (nx (sR_ rfl (pp2 5 15 17 rfl ?_)))
 have hQ:=D0 hR;clear hR;obtain ⟨d,j,hR⟩:=hQ
 refine zv rfl (C2u j) ?_
 have:=D3q x.length count s w;try rw [j] at this
 have a1:d.1=0:=by rw [this]
 have a5:IntKind.i64.wrap d.2=count:=by rw [this];exact wr6 (by show -1000000≤count∧count≤1000000;omega)
 have a7:d.2=count:=by rw [this]
 refine pp2 5 5 6 rfl (ie (A5 (sR_ rfl (pp1 3 23 rfl ?_))))
 refine zir 3 0 23 26 (decide ((9223372036854775807:Int)<d.2)) (fun g2 y=>?_) ?_
 ·refine pp1 3 26 rfl ?_
  exact zai 2 23 26 g2
 refine ie (W8 rfl (fun p=>?_) (fun p=>?_))
 ·have u:=bq_ p
  exfalso;simp only [Bool.or_eq_true,decide_eq_true_eq] at p;omega
 have u:=bq_ p
 refine A6 (nx (sR_ rfl (pp1 2 29 rfl (it rfl (C3t (f:=G4) (l:=(IntKind.i64.wrap d.2).toNat) (c:=(IntKind.i64.wrap d.2).toNat) Cel.zero E2s D8w.ok (fun _=>rfl) rfl (by exact congrArg (fun z=>some (Value.int .i64 z)) (show (IntKind.i64.wrap d.2)=(((IntKind.i64.wrap d.2).toNat:Nat):Int) by omega)) (by exact congrArg (fun z=>some (Value.int .i64 z)) (show (IntKind.i64.wrap d.2)=(((IntKind.i64.wrap d.2).toNat:Nat):Int) by omega)) opx ofv opx) fun ⟨r4,e⟩=>?_))))
 have:(List.replicate ((IntKind.i64.wrap d.2).toNat) Cel.zero).length=((IntKind.i64.wrap d.2).toNat):=List.length_replicate
 have:=VOk.le e
 have:=VOk.cap e
 have:(List.replicate ((IntKind.i64.wrap d.2).toNat) Cel.zero).length=((IntKind.i64.wrap d.2).toNat):=List.length_replicate
 refine pp1 1 7 rfl (ie (sR_ rfl (pp2 2 31 32 rfl ?_)))
 have o:VOk 12 (x.take (List.replicate ((IntKind.i64.wrap d.2).toNat) Cel.zero).length++(List.replicate ((IntKind.i64.wrap d.2).toNat) Cel.zero).drop x.length).length r4:=by rw [show (x.take (List.replicate ((IntKind.i64.wrap d.2).toNat) Cel.zero).length++(List.replicate ((IntKind.i64.wrap d.2).toNat) Cel.zero).drop x.length).length=(List.replicate ((IntKind.i64.wrap d.2).toNat) Cel.zero).length by simp only [List.length_append,List.length_take,List.length_drop];omega];exact e
 refine it rfl (D4z (f:=G4) (r:=r4) (xs:=(List.replicate ((IntKind.i64.wrap d.2).toNat) Cel.zero)) (ys:=x) (pre:=[]) (post:=[]) B4k (fun _=>rfl) (fun _=>rfl) rfl rfl rfl rfl rfl rfl rfl rfl (B1 0 rfl) e) fun _=>?_
 refine pp1 1 8 rfl (ie (A5 (B4 ?_)))
 refine A5o (un fun (g:Nat)=>un fun (a:List Cel)=>un fun (newslicer:VR) (n:Nat)=>((a.length - n)<g∧H2 g a n=R∧VOk 12 a.length newslicer∧(a.length=count.toNat∧1≤n),[(7,.slice (va newslicer.q) a.length newslicer.k),(8,iv (n:Int))],((vo G4 190 newslicer a)++([])),[sl G4 xq x],g)) ((((x.take (List.replicate ((IntKind.i64.wrap d.2).toNat) Cel.zero).length++(List.replicate ((IntKind.i64.wrap d.2).toNat) Cel.zero).drop x.length).length - (min x.length (List.replicate ((IntKind.i64.wrap d.2).toNat) Cel.zero).length:Nat))+1),x.take (List.replicate ((IntKind.i64.wrap d.2).toNat) Cel.zero).length++(List.replicate ((IntKind.i64.wrap d.2).toNat) Cel.zero).drop x.length,r4,(min x.length (List.replicate ((IntKind.i64.wrap d.2).toNat) Cel.zero).length:Nat)) ⟨(Nat.lt_succ_self _),hR,o,ort⟩ sb_ B0.refl (hE:=⟨(show some (Value.slice (va r4.q) ((List.replicate ((IntKind.i64.wrap d.2).toNat) Cel.zero).length) r4.k)=some (Value.slice (va r4.q) ((x.take (List.replicate ((IntKind.i64.wrap d.2).toNat) Cel.zero).length++(List.replicate ((IntKind.i64.wrap d.2).toNat) Cel.zero).drop x.length).length) r4.k) from congrArg (fun z=>some (Value.slice (va r4.q) z r4.k)) (show (List.replicate ((IntKind.i64.wrap d.2).toNat) Cel.zero).length=(x.take (List.replicate ((IntKind.i64.wrap d.2).toNat) Cel.zero).length++(List.replicate ((IntKind.i64.wrap d.2).toNat) Cel.zero).drop x.length).length by first|rfl|omega|(simp only [List.length_append,List.length_take,List.length_drop,List.length_replicate,List.length_set];omega))),(by first|rfl|exact congrArg (fun z=>some (Value.slice _ z _)) (by first|omega|(simp only [List.length_append,List.length_take,List.length_drop,List.length_replicate];omega))),trivial⟩) ?_
 rintro ⟨g,a,newslicer,n⟩ ⟨a0,hR,b,hn⟩
 have:=VOk.le b
 obtain ⟨fu1,rfl⟩:∃ m,g=m+1:=⟨g - 1,by omega⟩
 replace hR:=(H2.eq_2 ..).symm.trans hR
 refine A5 (sR_ rfl (pp1 4 37 rfl ?_))
 refine ie ?_
 refine zjd rfl hR ?_ ?_<;>clear hR<;>intro hR h8 a2
 ·refine A6 (nx (B4 ?_))
  refine sh' 10 [(7,vo G4 190 newslicer a)] [sl G4 xq x] ((vo G4 190 newslicer a)++([])) (zml 10 0) okl rfl okl okl okl sb_ B0.refl ?_
  refine zhp [0,1,2,4,5] 5 (zml 10 55) [(38,iv (n:Int)),(39,.slice (va newslicer.q) a.length newslicer.k),(40,iv (n:Int)),(42,.slice (va newslicer.q) a.length newslicer.k),(43,iv (n:Int))] ?_
  have:=VOk.cap b
  refine zhk 3 (zml 10 63) rfl (B6a (n':=(a.length - n)) B4k rfl rfl n a.length newslicer.k (A3t rfl rfl) A6w A6w opx opx (Nat.le_refl _) rfl rfl) ?_
  have:=VOk.cap b
  refine zhk 6 (zml 10 127) rfl (C5h (n':=n) B4k rfl rfl n newslicer.k (A3t rfl rfl) A6w opx (Nat.le_refl _) rfl rfl) ?_
  have i:VOk 12 (a.take n++(a.take (min n (a.length - n):Nat)++a.drop (n+(min n (a.length - n):Nat)))).length newslicer:=by rw [show (a.take n++(a.take (min n (a.length - n):Nat)++a.drop (n+(min n (a.length - n):Nat)))).length=a.length by simp only [List.length_append,List.length_take,List.length_drop];omega];exact b
  refine zho 7 [] (zml 10 255) rfl (D5b (f:=G4) (r:=newslicer) (xs:=a) (l:=n) (h:=n) (pre:=[]) (post:=[]) B4k (fun _=>rfl) (fun _=>rfl) rfl rfl rfl rfl rfl rfl rfl b opx opx) (fun _=>(List.nil_sublist _)) (fun _=>B0.refl) fun _=>?_
  refine zhk 8 (zml 10 511) rfl (C0 rfl rfl rfl rfl opx) ?_
  refine zhp [9] 0 (zml 10 1023) [(8,iv ((n:Int)+((min n (a.length - n):Nat):Int)))] ?_
  refine A0b okl ?_
  exact A1r (z1:=(fu1+1,a,newslicer,n)) (fu1,(a.take n++(a.take (min n (a.length - n):Nat)++a.drop (n+(min n (a.length - n):Nat)))),newslicer,(n+(min n (a.length - n):Nat))) ⟨(by simp only [List.length_append,List.length_take,List.length_drop,List.length_replicate];omega),hR,i,ort⟩ (Nat.lt_succ_self _) sb_ B0.refl (hE:=⟨(show some (Value.slice (va newslicer.q) a.length newslicer.k)=some (Value.slice (va newslicer.q) ((a.take n++(a.take (min n (a.length - n):Nat)++a.drop (n+(min n (a.length - n):Nat)))).length) newslicer.k) from congrArg (fun z=>some (Value.slice (va newslicer.q) z newslicer.k)) (show a.length=(a.take n++(a.take (min n (a.length - n):Nat)++a.drop (n+(min n (a.length - n):Nat)))).length by first|rfl|omega|(simp only [List.length_append,List.length_take,List.length_drop,List.length_replicate,List.length_set];omega))),(show some (iv ((n:Int)+((min n (a.length - n):Nat):Int)))=some (iv ((n+(min n (a.length - n):Nat)):Int)) by first|rfl|exact congrArg (fun z=>some (Value.int .i64 z)) (by first|rfl|omega|(simp only [List.length_append,List.length_take,List.length_drop,List.length_replicate,List.length_set];omega))),trivial⟩)
 refine H3 (nx (sR_ rfl (pp1 2 4 rfl ?_)))
 subst hR
 refine ie (A8 ?_)
 exact zer hr hD (O3 rfl (B9 rfl)) ⟨newslicer,b⟩ sb_ fn0
def B8s (a:Int) (s:Sty):List Cel×Bool×Int :=
 (bif ((decide (a<2))||(decide ((80:Int)<a))) then (([]:List Cel),false,2) else (bif (!decide ((N4 s)=0)) then (([]:List Cel),false,(N4 s)) else (C9 (N2 ([(M8 s)]:List Cel) a) fun (b:List Cel)=>(b,false,0))))
theorem D5u {a:Int} {s:Sty} {R:List Cel×Bool×Int} (hR:B8s a s=R):Con Tryz.prog 108 [iv a,ag (A0c s)] [] [] ({r:VR // VOk 12 R.1.length r}) (fun x=>.tuple #[ag [.slice (va x.1.q) R.1.length x.1.k,bv R.2.1],iv R.2.2]) (fun x=>((vo G4 190 x.1 R.1)++([]))) (fun x=>[]):=by
 refine zce Tryz.func108 fun X hX hr hD=>?_
 replace hR:=(B8s.eq_1 ..).symm.trans hR
 refine sR_ rfl (A8j 3 0 [] (fun b d=>[(3,pt b 0),(4,pt d 0)]) (fun b d=>[bx d [.slice none 0 0,bv false] 116,bx b (A0c s) 35]) (fun b d=>(ie (A5 (sR_ rfl (pp1 3 9 rfl ?_))))))
 refine zir 3 0 9 12 (decide ((80:Int)<a)) (fun j m=>?_) ?_
 ·refine pp1 3 12 rfl ?_
  exact A3 (P7 2 9 12 j fn0 sb_ rfl rfl rfl rfl rfl)
 refine ie ?_
 refine zjo rfl hR ?_ ?_<;>clear hR<;>intro hR p n
 ·refine sR_ rfl (zrg 3 0 [0] [(5,iv 2)] [bx d [.slice none 0 0,bv false] 116,bx b (A0c s) 35] ?_)
  subst hR
  refine ie (A8 ?_)
  exact zer hr hD (U6 rfl (D4 (us:=[.slice none 0 0,bv false]) C6i rfl 0 rfl rfl rfl) (B9 rfl)) ⟨VR.nil,VOk.nil⟩ sb_ fn0
 refine A6 (nx (A5 (sR_ rfl (zrl 1 2 [1] [(14,ag (A0c s))] (zv rfl (A4e (s:=s) rfl) (pp1 1 6 rfl (ie (sR_ rfl (pp1 2 17 rfl (ie ?_))))))))))
 refine zjn rfl hR ?_ ?_<;>clear hR<;>intro hR t i
 ·refine sR_ rfl (zrg 4 0 [0] [(5,iv (N4 s))] [bx d [.slice none 0 0,bv false] 116,bx b (A0c s) 35] ?_)
  subst hR
  refine ie (A8 ?_)
  exact zer hr hD (U6 rfl (D4 (us:=[.slice none 0 0,bv false]) C6i rfl 0 rfl rfl rfl) (B9 rfl)) ⟨VR.nil,VOk.nil⟩ sb_ fn0
 refine A6 (nx (sR_ rfl (zrl 1 7 [1] [(20,ag (A0c s))] (zv rfl (D0a (s:=s) rfl) (it rfl (C3 (c:=G4) (xs:=([(M8 s)]:List Cel)) B4k rfl rfl rfl okl) fun l=>?_)))))
 have:([(M8 s)]:List Cel).length=1:=rfl
 refine pp1 1 23 rfl ?_
 have o:=D0 hR;clear hR;obtain ⟨h,g,hR⟩:=o
 refine zc rfl (A5e (x:=([(M8 s)]:List Cel)) (count:=a) (xq:=(some ⟨l,0,none⟩)) (xk:=1) g om_ om_ om_ (by first|rfl|omega)) fun ⟨f,e⟩=>?_
 have:=VOk.le e
 have:=VOk.cap e
 refine zrg 3 0 [0] [(5,iv 0)] (bx d [.slice (va f.q) h.length f.k,bv false] 116::bx b (A0c s) 35::((vo G4 190 f h)++([]))) ?_
 subst hR
 refine ie (A8 ?_)
 exact zer hr hD (U6 rfl (D4 (us:=[.slice (va f.q) h.length f.k,bv false]) C6i rfl 0 rfl rfl rfl) (B9 rfl)) ⟨f,e⟩ sb_ fn0
end Go.Proofs.YtioaekgoceinkaaGreatDoor
set_option linter.unusedVariables false
set_option linter.unusedSimpArgs false
set_option linter.unnecessarySimpa false
set_option maxRecDepth 100000
namespace Go.Proofs.YtioaekgoceinkaaGreatDoor
open Go Go.Fen
theorem E3z:ApTy Tryz.prog 31 116 2 32:=⟨by kernel_rfl,by kernel_rfl,rfl⟩
theorem C7k:SlTy Tryz.prog 31 116 2:=⟨by kernel_rfl,by kernel_rfl⟩
theorem D0r:Ty Tryz.prog 45 80 true:=⟨by kernel_rfl⟩
theorem D9o:Zero Tryz.prog 116 [.slice none 0 0,bv false]:=⟨by kernel_rfl⟩
def S0 (a:Int) (s:Sty):List (Rwc Cel)→List (Rwc Cel)→Nat→List (Rwc Cel)
 | [],l,t13=>l
 | hd_l0::tl_l0,l,t13=>(C9 (B8s a s) fun (b:List Cel×Bool×Int)=>S0 a s tl_l0 (l.set t13 (⟨b.1,b.2.1⟩:Rwc Cel)) (t13+1))
def A4y (b:Int) (a:Int) (s:Sty):List (Rwc Cel) :=
 S0 b s (List.replicate ((a).toNat) (zwc:Rwc Cel)) (List.replicate ((a).toNat) (zwc:Rwc Cel)) 0
theorem oll {p:Prop} (h:p:=by first|rfl|simp only [List.flatten_cons,List.flatten_nil,List.cons_append,List.append_assoc,List.nil_append,List.append_nil]):p:=h
theorem C6s {e a:Int} {s:Sty} {R:List (Rwc Cel)} (hR:A4y e a s=R) (a6:1≤a∧a≤40:=by exact om_) (a5:2≤e∧e≤80:=by exact om_):Con Tryz.prog 32 [iv e,iv a,ag (A0c s)] [] [] ({t:VR×List Rwq // VOk 2 R.length t.1∧F8 t.2 R}) (fun x=>.slice (va x.1.1.q) R.length x.1.1.k) (fun x=>((vo K1 116 x.1.1 x.1.2)++([]))) (fun x=>[G5 G4 x.1.2 R]):=by
 refine zce Tryz.func32 fun X hX hr hD=>?_
 replace hR:=(A4y.eq_1 ..).symm.trans hR
 refine sR_ rfl (H9 2 0 [] (fun n=>[(5,pt n 0)]) (fun n=>[bx n (A0c s) 35]) (fun n=>(ie (sR_ rfl (pp1 1 9 rfl (D7 (q:=G5 G4 (List.replicate ((a).toNat) zwq) (List.replicate ((a).toNat) (zwc:Rwc Cel))) E2u ?_))))))
 refine it rfl (D5n (α:=Cel) (l:=(a).toNat) (cc:=(a).toNat) E3z D9o.ok rfl (by exact congrArg (fun z=>some (Value.int .i64 z)) (show a=(((a).toNat:Nat):Int) by omega)) (by exact congrArg (fun z=>some (Value.int .i64 z)) (show a=(((a).toNat:Nat):Int) by omega)) opx ofv opx) fun ⟨r2,o⟩=>?_
 have:(List.replicate ((a).toNat) zwq).length=((a).toNat):=List.length_replicate
 have:=VOk.le o
 have:=VOk.cap o
 have:(List.replicate ((a).toNat) (zwc:Rwc Cel)).length=(a).toNat:=List.length_replicate
 refine pp1 1 7 rfl (ie (A5 (sR_ rfl (pp2 3 12 13 rfl (ie (B4 ?_))))))
 refine A5o (un fun (l:List (Rwc Cel))=>un fun (m:VR)=>un fun (h:List Rwq) (d:Nat)=>(d≤(List.replicate ((a).toNat) (zwc:Rwc Cel)).length∧S0 e s ((List.replicate ((a).toNat) (zwc:Rwc Cel)).drop d) l d=R∧VOk 2 l.length m∧F8 h l∧l.length=a.toNat,[(0,iv e),(5,pt n 0),(7,.slice (va m.q) l.length m.k),(12,iv ((List.replicate ((a).toNat) (zwc:Rwc Cel)).length:Int)),(13,iv (d:Int))],(bx n (A0c s) 35::((vo K1 116 m h)++([]))),[G5 G4 (List.replicate ((a).toNat) zwq) (List.replicate ((a).toNat) (zwc:Rwc Cel)),G5 G4 h l],(List.replicate ((a).toNat) (zwc:Rwc Cel)).length - d)) ((List.replicate ((a).toNat) (zwc:Rwc Cel)),r2,List.replicate ((a).toNat) zwq,0) ⟨opx,hR,o,(F8.rep ((a).toNat)),(by exact List.length_replicate)⟩ sb_ fo_ ?_
 rintro ⟨l,m,h,d⟩ ⟨a8,hR,f,b,a2⟩
 have:=VOk.le f
 have:=b.1
 have:(List.replicate (a.toNat) (zwc:Rwc Cel)).length=a.toNat:=List.length_replicate
 have:=b.1
 refine sR_ rfl (pp1 1 14 rfl ?_)
 refine ie (A5 (W8 rfl (fun h5=>?_) (fun h5=>?_)))
 ·have v:=bq_ h5
  rw [A0r zwc (show d<(List.replicate ((a).toNat) (zwc:Rwc Cel)).length by omega)] at hR;replace hR:=(S0.eq_2 ..).symm.trans hR
  refine A6 (nx (A5 (B4 (sR_ rfl (pp1 2 8 rfl (ie (A1 10 rfl (zrl 4 6 [0] [(17,.slice (va m.q) l.length m.k),(18,iv (d:Int)),(19,iv e),(20,ag (A0c s))] ?_))))))))
  have hQ:=D0 hR;clear hR;obtain ⟨g,a3,hR⟩:=hQ
  refine zc rfl (D5u a3) fun ⟨i,j⟩=>?_
  have:=VOk.le j
  have:=VOk.cap j
  refine ip' 3 2 [(22,ag [.slice (va i.q) g.1.length i.k,bv g.2.1])] ?_
  obtain ⟨b8,y⟩:=VOk.some f opx
  obtain ⟨a0,p,u⟩:=m
  obtain rfl:a0=some b8:=y
  refine D7 (D5e (k:=d) b 1 rfl (by have:=b.1;omega)) ?_
  have:=C7l b (k:=d) (by have:=b.1;omega)
  refine ix rfl (C5t C7k rfl rfl rfl d rfl (by have:=b.1;omega)) ?_
  have:=VOk.cap j
  have:=VOk.le j
  refine A4k [bx n (A0c s) 35] ((vo K1 116 (⟨some b8,p,u⟩:VR) h)++([])) (T:=190) (c:=G4) (r:=i) (xs:=g.1) j oll ?_
  have w:F8 (h.set d (⟨⟨va i.q,g.1.length,i.k⟩,g.2.1⟩:Rwq)) (l.set d (⟨g.1,g.2.1⟩:Rwc Cel)):=F8.set b d ⟨rfl,ofp,ofp⟩ rfl
  refine D7 (E3y d (r:=(⟨⟨va i.q,g.1.length,i.k⟩,g.2.1⟩:Rwq)) (x:=(⟨g.1,g.2.1⟩:Rwc Cel)) (B1 3 rfl) (B1 0 rfl)) ?_
  refine it rfl (B6w (us:=[.slice (va i.q) g.1.length i.k,bv g.2.1]) (u':=(⟨⟨va i.q,g.1.length,i.k⟩,g.2.1⟩:Rwq)) (c:=K1) (sz:=2) C6i (fun _=>rfl) rfl rfl rfl 1 rfl rfl rfl rfl d 0 rfl (gd zwq (by have:=b.1;omega)) rfl rfl) fun _=>?_
  refine A3 (nx (A1 2 rfl (ix rfl (C0 rfl rfl rfl rfl opx) (pp1 1 13 rfl (A3 ?_)))))
  exact A1r (z1:=(l,(⟨some b8,p,u⟩:VR),h,d)) ((l.set d (⟨g.1,g.2.1⟩:Rwc Cel)),(⟨some b8,p,u⟩:VR),(h.set d (⟨⟨va i.q,g.1.length,i.k⟩,g.2.1⟩:Rwq)),d+1) ⟨opx,hR,(VOk.cast f oom),w,(by (rw [List.length_set];exact a2))⟩ olr sb_ fo_
 have v:=bq_ h5
 rw [A1i v] at hR;replace hR:=(S0.eq_1 ..).symm.trans hR
 refine H3 (nx (sR_ rfl (pp1 2 6 rfl ?_)))
 subst hR
 refine ie (A8 ?_)
 exact zer hr hD (O3 rfl (B9 rfl)) ⟨(m,h),⟨f,b⟩⟩ sb_ fo_
def A2d (a:Int) (b:Int) (s:Sty):List (Rwc Cel)×Int :=
 (bif ((((decide (a<2))||(decide ((80:Int)<a)))||(decide (b<1)))||(decide ((40:Int)<b))) then (([]:List (Rwc Cel)),2) else (bif (!decide ((N4 s)=0)) then (([]:List (Rwc Cel)),(N4 s)) else (C9 (A4y a b s) fun (c:List (Rwc Cel))=>(c,0))))
theorem C6a {b a:Int} {s:Sty} {R:List (Rwc Cel)×Int} (hR:A2d b a s=R):Con Tryz.prog 14 [iv b,iv a,ag (A0c s)] [] [] ({t:VR×List Rwq // VOk 2 R.1.length t.1∧F8 t.2 R.1}) (fun x=>.tuple #[.slice (va x.1.1.q) R.1.length x.1.1.k,iv R.2]) (fun x=>((vo K1 116 x.1.1 x.1.2)++([]))) (fun x=>[G5 G4 x.1.2 R.1]):=by
 refine zce Tryz.func14 fun X hX hr hD=>?_
 replace hR:=(A2d.eq_1 ..).symm.trans hR
 refine sR_ rfl (H9 3 0 [] (fun f=>[(5,pt f 0)]) (fun f=>[bx f (A0c s) 35]) (fun f=>(ie (A5 (sR_ rfl (pp1 3 11 rfl ?_))))))
 refine zir 3 8 11 14 (decide ((80:Int)<b)) (fun n p=>?_) ?_
 ·refine pp1 3 14 rfl ?_
  exact A3 (P7 2 11 14 n fn0 sb_ rfl rfl rfl rfl rfl)
 refine pp1 1 15 rfl ?_
 refine zio 3 4 15 18 (decide (a<1)) (fun j=>?_) ?_
 ·have v:=bq_ j
  refine pp1 3 18 rfl ?_
  exact A3 (P7 2 15 18 j fn0 sb_ rfl rfl rfl rfl rfl)
 refine pp1 1 19 rfl ?_
 refine zio 3 0 19 22 (decide ((40:Int)<a)) (fun l=>?_) ?_
 ·have u:=bq_ l
  refine pp1 3 22 rfl ?_
  exact A3 (P7 2 19 22 l fn0 sb_ rfl rfl rfl rfl rfl)
 refine ie ?_
 refine zjb rfl hR ?_ ?_<;>clear hR<;>intro hR m
 ·have g:=bq_ m
  refine sR_ rfl (pp2 2 6 7 rfl ?_)
  subst hR
  refine ie (A8 ?_)
  exact zer hr hD (U6 rfl (B9 rfl) (B9 rfl)) ⟨(VR.nil,([]:List Rwq)),⟨VOk.nil,F8.none⟩⟩ sb_ fo_
 have g:=bq_ m
 refine A6 (nx (A5 (sR_ rfl (zrl 1 2 [0] [(23,ag (A0c s))] (zv rfl (A4e rfl) (pp1 1 8 rfl (ie (sR_ rfl (pp1 2 26 rfl (ie ?_))))))))))
 refine zjn rfl hR ?_ ?_<;>clear hR<;>intro hR z r
 ·refine sR_ rfl (pp2 3 6 7 rfl ?_)
  subst hR
  refine ie (A8 ?_)
  exact zer hr hD (U6 rfl (B9 rfl) (B9 rfl)) ⟨(VR.nil,([]:List Rwq)),⟨VOk.nil,F8.none⟩⟩ sb_ fo_
 refine A6 (nx (sR_ rfl (zrl 3 3 [0] [(28,iv b),(29,iv a),(30,ag (A0c s))] ?_)))
 have w:=D0 hR;clear hR;obtain ⟨y,i,hR⟩:=w
 refine zc rfl (C6s i) fun ⟨⟨o,h⟩,c⟩=>?_
 try dsimp only at c
 obtain ⟨e,d⟩:=c
 have:=VOk.le e
 have:=VOk.cap e
 have:=d.1
 refine pp2 2 6 7 rfl ?_
 subst hR
 refine ie (A8 ?_)
 exact zer hr hD (U6 rfl (B9 rfl) (B9 rfl)) ⟨(o,h),⟨e,d⟩⟩ sb_ fo_
def R1 (cols:Int) (rows:Int):ScrC×List (Rwc Cel)×List (Rwc Cel)×List Bool×Int :=
 (C9 (A2d cols rows Sty.zero) fun (a:List (Rwc Cel)×Int)=>(bif (!decide (a.2=0)) then (ScrC.zero,([]:List (Rwc Cel)),([]:List (Rwc Cel)),([]:List Bool),a.2) else (C9 (A2d cols rows Sty.zero) fun (c:List (Rwc Cel)×Int)=>(C9 (A1y cols) fun (b:List Bool×Int)=>({ScrC.zero with cols:=cols,rows:=rows,modes:=A2e,bottom:=(IntKind.i64.wrap (rows - (1:Int)))},a.1,c.1,b.1,b.2)))))
theorem B2b (c r:Int):(R1 c r).1.title.length=0:=by
 unfold R1 C9
 simp only [Bool.cond_eq_ite]
 split<;>rfl
theorem C8k (c r:Int) (s:Sty):(A2d c r s).1.length≤100:=by
 have h:∀ (w:Int) (b l:List (Rwc Cel)) (t:Nat),(S0 w s b l t).length=l.length:=by
  intro w b
  induction b with
  | nil=>intros;rfl
  | cons a b ih=>intro l t;simp only [S0,C9];rw [ih,List.length_set]
 unfold A2d
 cases hb:((((decide (c<2))||(decide ((80:Int)<c)))||(decide (r<1)))||(decide ((40:Int)<r))) with
 | true=>exact Nat.zero_le _
 | false =>
  simp only [Bool.or_eq_false_iff,decide_eq_false_iff_not] at hb
  rw [cond_false]
  cases decide (N4 s=0) with
  | false=>exact Nat.zero_le _
  | true=>show (A4y c r s).length≤100;unfold A4y;rw [h,List.length_replicate];omega
theorem B5r (c r:Int):(R1 c r).2.1.length≤100∧(R1 c r).2.2.1.length≤100:=by
 unfold R1 C9
 have h:=C8k c r Sty.zero
 simp only [Bool.cond_eq_ite]
 split
 ·exact ⟨Nat.zero_le _,Nat.zero_le _⟩
 ·exact ⟨h,h⟩
theorem B8y {cols rows:Int} {R:ScrC×List (Rwc Cel)×List (Rwc Cel)×List Bool×Int} (hR:R1 cols rows=R):Con Tryz.prog 6 [iv cols,iv rows] [] [] ({t:VR×List Rwq // VOk 2 R.2.1.length t.1∧F8 t.2 R.2.1}×{t:VR×List Rwq // VOk 2 R.2.2.1.length t.1∧F8 t.2 R.2.2.1}×{r:VR // VOk 1 R.2.2.2.1.length r}) (fun x=>.tuple #[ag (B6 R.1 ⟨va x.1.1.1.q,R.2.1.length,x.1.1.1.k⟩ ⟨va x.2.1.1.1.q,R.2.2.1.length,x.2.1.1.1.k⟩ ⟨none,0,0⟩ ⟨va x.2.2.1.q,R.2.2.2.1.length,x.2.2.1.k⟩),iv R.2.2.2.2]) (fun x=>((vo K1 116 x.1.1.1 x.1.1.2)++((vo K1 116 x.2.1.1.1 x.2.1.1.2)++((vo N8 4 x.2.2.1 R.2.2.2.1)++([]))))) (fun x=>[G5 G4 x.1.1.2 R.2.1,G5 G4 x.2.1.1.2 R.2.2.1]):=by
 refine zce Tryz.func6 fun X hX hr hD=>?_
 replace hR:=(R1.eq_1 ..).symm.trans hR
 refine sR_ rfl (H9 2 0 [] (fun h=>[(4,pt h 0)]) (fun h=>[bx h (B6 ScrC.zero ⟨none,0,0⟩ ⟨none,0,0⟩ ⟨none,0,0⟩ ⟨none,0,0⟩) 45]) (fun h=>(ie (sR_ rfl (zrl 3 6 [] [(12,iv cols),(13,iv rows),(14,ag (A0c Sty.zero))] ?_)))))
 have s:=D0 hR;clear hR;obtain ⟨p,v,hR⟩:=s
 refine zc rfl (C6a v) fun ⟨⟨b,f⟩,n⟩=>?_
 try dsimp only at n
 obtain ⟨m,o⟩:=n
 have:=VOk.le m
 have:=VOk.cap m
 have:=o.1
 refine pp2 5 6 7 rfl (ie (A5 (sR_ rfl (pp1 2 19 rfl (ie ?_)))))
 refine zjn rfl hR ?_ ?_<;>clear hR<;>intro hR h7 z
 ·refine sR_ rfl (zrg 4 0 [0] [(5,iv p.2)] (bx h (B6 ScrC.zero ⟨none,0,0⟩ ⟨none,0,0⟩ ⟨none,0,0⟩ ⟨none,0,0⟩) 45::((vo K1 116 b f)++([]))) ?_)
  subst hR
  refine ie (A8 ?_)
  exact zer hr hD (U6 rfl (B0h (us:=B6 ScrC.zero ⟨none,0,0⟩ ⟨none,0,0⟩ ⟨none,0,0⟩ ⟨none,0,0⟩) D0r rfl 0 rfl rfl) (B9 rfl)) (⟨(VR.nil,([]:List Rwq)),⟨VOk.nil,F8.none⟩⟩,⟨(VR.nil,([]:List Rwq)),⟨VOk.nil,F8.none⟩⟩,⟨VR.nil,VOk.nil⟩) sb_ fo_
 refine A6 (nx (sR_ rfl (zrl 3 6 [] [(23,iv cols),(24,iv rows),(25,ag (A0c Sty.zero))] ?_)))
 have s:=D0 hR;clear hR;obtain ⟨u,w,hR⟩:=s
 refine zc rfl (C6a w) fun ⟨⟨c,g⟩,l⟩=>?_
 try dsimp only at l
 obtain ⟨d,j⟩:=l
 have:=VOk.le d
 have:=VOk.cap d
 have:=j.1
 refine pp1 5 8 rfl (ie (sR_ rfl (pp1 1 30 rfl ?_)))
 have s:=D0 hR;clear hR;obtain ⟨i,y,hR⟩:=s
 refine zc rfl (D2i y) fun ⟨a,e⟩=>?_
 have:=VOk.le e
 have:=VOk.cap e
 refine pp2 5 10 7 rfl (ie (sR_ rfl (pp4 4 34 35 36 37 rfl (zv rfl (D3h rfl) (pp1 1 39 rfl (ix rfl (G7.pure rfl) (zrg 5 0 [0] [(5,iv i.2)] (bx h (B6 ({ScrC.zero with cols:=cols,rows:=rows,modes:=A2e,bottom:=(IntKind.i64.wrap (rows - (1:Int)))}) ⟨va b.q,p.1.length,b.k⟩ ⟨va c.q,u.1.length,c.k⟩ ⟨none,0,0⟩ ⟨va a.q,i.1.length,a.k⟩) 45::((vo N8 4 a i.1)++((vo K1 116 c g)++((vo K1 116 b f)++([]))))) ?_)))))))
 subst hR
 refine ie (A8 (P9 (G9 [[bx h (B6 ({ScrC.zero with cols:=cols,rows:=rows,modes:=A2e,bottom:=(IntKind.i64.wrap (rows - (1:Int)))}) ⟨va b.q,p.1.length,b.k⟩ ⟨va c.q,u.1.length,c.k⟩ ⟨none,0,0⟩ ⟨va a.q,i.1.length,a.k⟩) 45],vo N8 4 a i.1,vo K1 116 c g,vo K1 116 b f] [0,3,2,1] 4 rfl ozw rfl [[bx h (B6 ({ScrC.zero with cols:=cols,rows:=rows,modes:=A2e,bottom:=(IntKind.i64.wrap (rows - (1:Int)))}) ⟨va b.q,p.1.length,b.k⟩ ⟨va c.q,u.1.length,c.k⟩ ⟨none,0,0⟩ ⟨va a.q,i.1.length,a.k⟩) 45],vo K1 116 b f,vo K1 116 c g,vo N8 4 a i.1] rfl opv) ?_))
 exact zer hr hD (U6 rfl (B0h (us:=B6 ({ScrC.zero with cols:=cols,rows:=rows,modes:=A2e,bottom:=(IntKind.i64.wrap (rows - (1:Int)))}) ⟨va b.q,p.1.length,b.k⟩ ⟨va c.q,u.1.length,c.k⟩ ⟨none,0,0⟩ ⟨va a.q,i.1.length,a.k⟩) D0r rfl 0 rfl rfl) (B9 rfl)) (⟨(b,f),⟨m,o⟩⟩,⟨(c,g),⟨d,j⟩⟩,⟨a,e⟩) sb_ fo_
def O1 (row:Int) (a:Int) (b:Int) (p3:Int):Bool :=
 ((((decide ((0:Int)≤row))&&(decide (row<b)))&&(decide ((0:Int)≤a)))&&(decide (a<p3)))
theorem B0c {row a d p3:Int} {c b:Addr} {R:Bool} (hR:O1 row a d p3=R):G3 Tryz.prog 25 [iv row,iv a,pa c,pa b] [at_ c [iv d],at_ b [iv p3]] (bv R):=by
 refine zce Tryz.func25 fun X hX hr hD=>?_
 replace hR:=(O1.eq_1 ..).symm.trans hR
 refine sR_ rfl (pp0 1 rfl (ie (sR_ rfl (pp1 3 9 rfl ?_))))
 refine zid 4 10 9 13 (decide (row<d)) (fun j h=>?_) ?_
 ·refine pp1 1 10 rfl (ix rfl (D6 ty3 rfl rfl (B1 0 rfl) rfl) (pp1 2 13 rfl ?_))
  exact zai 4 9 13 j
 refine pp1 1 14 rfl ?_
 refine zia 3 6 14 17 (decide ((0:Int)≤a)) (fun e=>?_) ?_
 ·have g:=bq_ e
  refine pp1 3 17 rfl ?_
  exact zai 2 14 17 e
 refine pp1 1 18 rfl ?_
 refine zia 4 1 18 22 (decide (a<p3)) (fun f=>?_) ?_
 ·have i:=bq_ f
  refine pp1 1 19 rfl (ix rfl (D6 ty3 rfl rfl (B1 1 rfl) rfl) (pp1 2 22 rfl ?_))
  exact zai 4 18 22 f
 refine pp1 1 6 rfl ?_
 subst hR
 refine ie (A8 ?_)
 exact E9 hr hD
@[reducible] def E4w:List Value:=[iv 0,iv 0,.slice none 0 0,.slice none 0 0,bv false,.slice none 0 0,iv 0,iv 0,bv false,iv 0,iv 0,iv 0,iv 0,iv 0,iv 0,iv 0,iv 0,iv 0,iv 0,iv 0,iv 0,iv 0,iv 0,bv false,bv false,bv false,bv false,bv false,bv false,bv false,bv false,bv false,bv false,bv false,iv 0,bv false,iv 0,iv 0,.slice none 0 0,bv false,iv 0,iv 0,bv false,iv 0,iv 0,iv 0,iv 0,iv 0,iv 0,iv 0,iv 0,iv 0,iv 0,iv 0,iv 0,iv 0,iv 0,bv false,bv false,iv 0,iv 0,bv false,iv 0,iv 0,iv 0,iv 0,iv 0,iv 0,iv 0,iv 0,iv 0,iv 0,iv 0,iv 0,iv 0,iv 0,bv false,iv 0,sv ([]:List UInt8),iv 0]
def G1 (a:Int) (b:Int) (p:Pth):Int :=
 (C9 (R1 a b) fun (c:ScrC×List (Rwc Cel)×List (Rwc Cel)×List Bool×Int)=>(bif ((((!decide (c.2.2.2.2=0))||(!(O1 p.frm.row p.frm.col b a)))||(!(O1 p.to_.row p.to_.col b a)))||(p.frm.wrap&&(!decide (p.frm.col=(IntKind.i64.wrap (a - (1:Int))))))) then 2 else 0))
theorem B1p {a c:Int} {p:Pth} {R:Int} (hR:G1 a c p=R):G3 Tryz.prog 11 [iv a,iv c,ag (H5 p)] [] (iv R):=by
 refine zce Tryz.func11 fun X hX hr hD=>?_
 replace hR:=(G1.eq_1 ..).symm.trans hR
 refine sR_ rfl (it rfl (X7 (cs:=[iv a]) rfl rfl rfl) fun x=>?_)
 refine A1s 0 rfl ?_
 refine it rfl (X7 (cs:=[iv c]) rfl rfl rfl) fun b2=>?_
 refine A1s 0 rfl ?_
 refine it rfl (X7 (cs:=H5 p) rfl rfl rfl) fun b3=>?_
 refine A1s 0 rfl ?_
 refine pp0 1 rfl (ie (sR_ rfl (ix rfl (D6 ty3 rfl rfl (B1 2 rfl) rfl) (ix rfl (D6 ty3 rfl rfl (B1 1 rfl) rfl) ?_))))
 have hQ:=D0 hR;clear hR;obtain ⟨l,i,hR⟩:=hQ
 refine zc rfl (B8y i) fun ⟨⟨⟨r4,z⟩,u⟩,⟨⟨r9,o⟩,f⟩,⟨h,e⟩⟩=>?_
 try dsimp only at u
 obtain ⟨n,y⟩:=u
 try dsimp only at f
 obtain ⟨g,s⟩:=f
 have:=VOk.le n
 have:=VOk.le g
 have:=VOk.le e
 have:=VOk.cap n
 have:=VOk.cap g
 have:=VOk.cap e
 have:=y.1
 have:=s.1
 have b:=B2b a c;rw [i] at b;have d:=B5r a c;rw [i] at d
 refine H9 6 0 [0] (fun j=>[(8,iv l.2.2.2.2)]) (fun j=>(bx j (B6 l.1 ⟨va r4.q,l.2.1.length,r4.k⟩ ⟨va r9.q,l.2.2.1.length,r9.k⟩ ⟨none,0,0⟩ ⟨va h.q,l.2.2.2.1.length,h.k⟩) 45::((vo K1 116 r4 z)++((vo K1 116 r9 o)++((vo N8 4 h l.2.2.2.1)++([])))))) (fun j=>?_)
 refine ie (sR_ rfl (ip' 2 0 [(9,.func (.func 25) #[] #[pa (⟨b2,0,none⟩:Addr),pa (⟨x,0,none⟩:Addr)])] (ie (A5 (sR_ rfl (pp1 3 19 rfl ?_))))))
 refine zio 10 24 19 29 (!(O1 p.frm.row p.frm.col c a)) (fun m=>?_) ?_
 ·have a4:=bq_ m
  refine ip' 3 7 [(20,.func (.func 25) #[] #[pa (⟨b2,0,none⟩:Addr),pa (⟨x,0,none⟩:Addr)]),(22,pa (⟨b3,0,none⟩:Addr))] (ix rfl (D6 ty3 rfl rfl (S3 (S3 (B1 2 rfl) (ws:=B8 p.frm) 3 rfl) (ws:=[iv p.frm.row]) 1 rfl) rfl) (pp1 2 25 rfl (ix rfl (D6 ty3 rfl rfl (A3p (S3 (B1 2 rfl) (ws:=B8 p.frm) 3 rfl) (ws:=[iv p.frm.col]) 1 1 rfl) rfl) (zv rfl (B0c rfl) (pp1 2 29 rfl ?_)))))
  exact A3 (P7 8 19 29 m B0.refl sb_ rfl rfl rfl rfl rfl)
 refine pp1 1 30 rfl ?_
 refine zio 10 13 30 40 (!(O1 p.to_.row p.to_.col c a)) (fun t=>?_) ?_
 ·have a6:=bq_ t
  refine ip' 3 7 [(31,.func (.func 25) #[] #[pa (⟨b2,0,none⟩:Addr),pa (⟨x,0,none⟩:Addr)]),(33,pa ((⟨b3,0,none⟩:Addr).add 3))] (ix rfl (D6 ty3 rfl rfl (S3 (A3p (B1 2 rfl) (ws:=X5 p.to_) 3 2 rfl) (ws:=[iv p.to_.row]) 1 rfl) rfl) (pp1 2 36 rfl (ix rfl (D6 ty3 rfl rfl (A3p (A3p (B1 2 rfl) (ws:=X5 p.to_) 3 2 rfl) (ws:=[iv p.to_.col]) 1 1 rfl) rfl) (zv rfl (B0c rfl) (pp1 2 40 rfl ?_)))))
  exact A3 (P7 8 30 40 t B0.refl sb_ rfl rfl rfl rfl rfl)
 refine pp1 1 41 rfl ?_
 refine zio 12 0 41 53 (p.frm.wrap&&(!decide (p.frm.col=(IntKind.i64.wrap (a - (1:Int)))))) (fun w=>?_) ?_
 ·have a5:=bq_ w
  refine pp1 2 43 rfl (ix rfl (D6 ty4 rfl rfl (A3p (S3 (B1 2 rfl) (ws:=B8 p.frm) 3 rfl) (ws:=[bv p.frm.wrap]) 2 1 rfl) rfl) (pp1 1 45 rfl ?_))
  refine zia 7 1 45 52 (!decide (p.frm.col=(IntKind.i64.wrap (a - (1:Int))))) (fun a2=>?_) ?_
  ·refine pp1 2 47 rfl (ix rfl (D6 ty3 rfl rfl (A3p (S3 (B1 2 rfl) (ws:=B8 p.frm) 3 rfl) (ws:=[iv p.frm.col]) 1 1 rfl) rfl) (ix rfl (D6 ty3 rfl rfl (B1 4 rfl) rfl) (ix rfl (G7.pure rfl) (pp1 2 52 rfl ?_))))
   exact A3 (P7 6 45 52 a2 B0.refl sb_ rfl rfl rfl rfl rfl)
  refine pp1 1 53 rfl ?_
  exact A3 (P7 6 41 53 w B0.refl sb_ rfl rfl rfl rfl rfl)
 refine ie ?_
 refine zjb rfl hR ?_ ?_<;>clear hR<;>intro hR r
 ·have v:=bq_ r
  refine sR_ rfl (pp1 1 6 rfl ?_)
  subst hR
  refine ie (A8 ?_)
  exact E9 hr hD
 have v:=bq_ r
 refine A6 (nx (sR_ rfl (pp1 1 6 rfl ?_)))
 subst hR
 refine ie (A8 ?_)
 exact E9 hr hD
theorem D8u {c r:Int} {s:Sty} (h:(A2d c r s).2=0):2≤c∧c≤80∧1≤r∧r≤40:=by
 unfold A2d at h
 by_cases hb:2≤c∧c≤80∧1≤r∧r≤40
 ·exact hb
 ·rw [show ((((decide (c<2))||(decide ((80:Int)<c)))||(decide (r<1)))||(decide ((40:Int)<r)))=true by simp only [Bool.or_eq_true,decide_eq_true_eq];omega] at h
  exact absurd (show (2:Int)=0 from h) ozw
theorem D5x {c r:Int} (h:(R1 c r).2.2.2.2=0):2≤c∧c≤80∧1≤r∧r≤40:=by
 unfold R1 at h;simp only [C9] at h
 cases hg:decide ((A2d c r Sty.zero).2=0) with
 | true=>exact D8u (of_decide_eq_true hg)
 | false =>
  rw [hg] at h
  exact absurd (show (A2d c r Sty.zero).2=0 from h) (of_decide_eq_false hg)
theorem B8l {c r:Int} {p:Pth} (h:(!decide (G1 c r p=0))=false):(2≤c∧c≤80∧1≤r∧r≤40)∧(0≤p.frm.row∧p.frm.row<r∧0≤p.frm.col∧p.frm.col<c)∧(0≤p.to_.row∧p.to_.row<r∧0≤p.to_.col∧p.to_.col<c)∧(p.frm.wrap=true→p.frm.col=c - 1):=by
 have a:G1 c r p=0:=by simpa using h
 unfold G1 at a;simp only [C9] at a
 revert a
 cases hq:(!decide ((R1 c r).2.2.2.2=0)) with
 | true=>intro a;exact absurd (show (2:Int)=0 from a) ozw
 | false =>
  have b:=D5x (c:=c) (r:=r) (by simpa using hq)
  cases h1:O1 p.frm.row p.frm.col r c with
  | false=>intro a;exact absurd (show (2:Int)=0 from a) ozw
  | true =>
   cases h2:O1 p.to_.row p.to_.col r c with
   | false=>intro a;exact absurd (show (2:Int)=0 from a) ozw
   | true =>
    unfold O1 at h1 h2
    simp only [Bool.and_eq_true,decide_eq_true_eq] at h1 h2
    cases h3:p.frm.wrap with
    | false=>intro _;exact ⟨b,⟨h1.1.1.1,h1.1.1.2,h1.1.2,h1.2⟩,⟨h2.1.1.1,h2.1.1.2,h2.1.2,h2.2⟩,fun e=>by cases e⟩
    | true =>
     intro a
     rw [D7k (by show (-9223372036854775808:Int)≤_;omega) (by show _≤(9223372036854775807:Int);omega)] at a
     refine ⟨b,⟨h1.1.1.1,h1.1.1.2,h1.1.2,h1.2⟩,⟨h2.1.1.1,h2.1.1.2,h2.1.2,h2.2⟩,fun _=>?_⟩
     by_cases h4:p.frm.col=c - 1
     ·exact h4
     ·rw [decide_eq_false h4] at a
      exact absurd (show (2:Int)=0 from a) ozw
theorem B0f {c r:Int} {c0:Pth} (h:(!decide (G1 c r c0=0))=false):(0≤c0.frm.row∧c0.frm.row≤40∧0≤c0.to_.row∧c0.to_.row≤40)∧(0≤c0.frm.col∧c0.frm.col≤80∧0≤c0.to_.col∧c0.to_.col≤80):=by
 have:=B8l h;omega
end Go.Proofs.YtioaekgoceinkaaGreatDoor
set_option linter.unusedVariables false
set_option linter.unusedSimpArgs false
set_option linter.unnecessarySimpa false
set_option maxRecDepth 100000
namespace Go.Proofs.YtioaekgoceinkaaGreatDoor
open Go Go.Fen
theorem D6p:ApTy Tryz.prog 27 56 6 56:=⟨by kernel_rfl,by kernel_rfl,rfl⟩
theorem C2g:ApTy Tryz.prog 51 27 1 24:=⟨by kernel_rfl,by kernel_rfl,rfl⟩
theorem C0k:SlTy Tryz.prog 51 27 1:=⟨by kernel_rfl,by kernel_rfl⟩
theorem E4u:Ty Tryz.prog 27 1 false:=⟨by kernel_rfl⟩
theorem E2z:Ty Tryz.prog 58 5 true:=⟨by kernel_rfl⟩
def B2 (p:Pth):Pth :=
 p
theorem A9q {p R:Pth} (hR:B2 p=R):Con Tryz.prog 12 [ag (H5 p)] [] [] (Addr) (fun x=>.func (.func 26) #[] #[pa x]) (fun x=>[]) (fun x=>[at_ x (H5 R)]):=by
 refine zce Tryz.func12 fun X hX hr hD=>?_
 replace hR:=(B2.eq_1 ..).symm.trans hR
 refine sR_ rfl (it rfl (X7 (cs:=H5 p) rfl rfl rfl) fun a=>?_)
 refine A1s 0 rfl ?_
 refine pp0 1 rfl (ie (sR_ rfl (ip' 2 0 [(2,.func (.func 26) #[] #[pa (⟨a,0,none⟩:Addr)])] ?_)))
 subst hR
 refine ie (A8 ?_)
 exact zer hr hD (O3 rfl (B9 rfl)) (⟨a,0,none⟩:Addr) sb_ fo_
def B5 (p:Pth):Pth :=
 p
theorem B7v {p R:Pth} (hR:B5 p=R):Con Tryz.prog 28 [ag (H5 p)] [] [] (Addr) (fun x=>.func (.func 83) #[] #[pa x]) (fun x=>[]) (fun x=>[at_ x (H5 R)]):=by
 refine zce Tryz.func28 fun X hX hr hD=>?_
 replace hR:=(B5.eq_1 ..).symm.trans hR
 refine sR_ rfl (it rfl (X7 (cs:=H5 p) rfl rfl rfl) fun a=>?_)
 refine A1s 0 rfl ?_
 refine pp0 1 rfl (ie (sR_ rfl (ip' 2 0 [(2,.func (.func 83) #[] #[pa (⟨a,0,none⟩:Addr)])] ?_)))
 subst hR
 refine ie (A8 ?_)
 exact zer hr hD (O3 rfl (B9 rfl)) (⟨a,0,none⟩:Addr) sb_ fo_
def E1n (a:Act):Prop:=a.text=[]∧-1000≤a.n∧a.n≤1000∧-1000≤a.m∧a.m≤1000∧(a.kind=20→0≤a.n∧a.n≤3)
def mwA (e:List Act):Prop:=e.length≤50∧∀ a ∈ e,E1n a
theorem D6j {l:List (List Act)} (h:∀ e ∈ l,mwA e) (k:Nat):(l.getD k []).length≤50:=by
 rw [List.getD_eq_getElem?_getD]
 cases h3:l[k]? with
 | none=>exact Nat.zero_le _
 | some y=>exact (h y (List.mem_of_getElem? h3)).1
theorem D3y {a:Act} (h:E1n a):mwA [a]:=⟨Nat.le_of_ble_eq_true rfl,fun b c=>by rw [List.mem_singleton.1 c];exact h⟩
def B2l (e:List Act):Prop:=e.length≤100∧∀ a ∈ e,E1n a
theorem B7q {b:List Act} (h:B2l b):∀ a ∈ b,a.text.length≤100000000:=fun a c=>by
 rw [(h.2 a c).1];exact Nat.zero_le _
theorem D5s {b:List Act} {rest:List (List Act)} (h:∀ e ∈ b::rest,B2l e):∀ a ∈ b,a.text.length≤100000000:=B7q (h b (List.mem_cons_self ..))
theorem D5v {l:List (List Act)} (h:∀ e ∈ l,B2l e) (k:Nat):B2l (l.getD k []):=by
 rw [List.getD_eq_getElem?_getD]
 cases h3:l[k]? with
 | none=>exact ⟨Nat.zero_le _,fun a b=>by cases b⟩
 | some y=>exact h y (List.mem_of_getElem? h3)
def O5 (n:Int) (m:Int):List Act :=
 ([{Act.zero with kind:=20,n:=n,m:=m}]:List Act)
theorem B4j {n m:Int} (h:0≤n∧n≤3∧0≤m∧m≤1000):mwA (O5 n m) :=
 D3y ⟨rfl,show -1000≤n by omega,show n≤1000 by omega,show -1000≤m by omega,show m≤1000 by omega,fun _=>⟨h.1,h.2.1⟩⟩
theorem A4h {n m:Int} {R:List Act} (hR:O5 n m=R):Con Tryz.prog 81 [iv n,iv m] [] [] ({t:Option Addr×Nat // R.length≤t.2∧R.length≤9223372036854775807}) (fun x=>.slice x.1.1 R.length x.1.2) (fun x=>[]) (fun x=>[sl A2 x.1.1 R]):=by
 refine zce Tryz.func81 fun X hX hr hD=>?_
 replace hR:=(O5.eq_1 ..).symm.trans hR
 refine sR_ rfl (pp0 1 rfl (ie (sR_ rfl (zrl 3 2 [] [(7,ag (A2 ({Act.zero with kind:=20,n:=n,m:=m})))] (it rfl (C3 (c:=A2) (xs:=([{Act.zero with kind:=20,n:=n,m:=m}]:List Act)) A5y rfl rfl rfl okl) fun a=>?_)))))
 have:([{Act.zero with kind:=20,n:=n,m:=m}]:List Act).length=1:=rfl
 refine pp1 1 4 rfl ?_
 subst hR
 refine ie (A8 ?_)
 exact zer hr hD (O3 rfl (B9 rfl)) (zq (some ⟨a,0,none⟩) 1) sb_ fo_
def W6 (kind:Int) (times:Int):Nat→List Act→Nat→List Act
 | 0,_,_=>[]
 | fu1+1,out,a=>(bif (decide ((a:Int)<times)) then W6 kind times fu1 (out++([{Act.zero with kind:=kind}]:List Act)) (a+1) else out)
def N5 (kind:Int) (times:Int):List Act :=
 W6 kind times ((times - (0:Int)).toNat+1) ([]:List Act) 0
theorem C4w (kind times:Int):∀ (n t b:Nat) (a:List Act),(times - t).toNat=n→n<b→W6 kind times b a t=a++List.replicate n {Act.zero with kind:=kind}
 | 0,t,b+1,a,h,_=>by
  rw [W6,decide_eq_false opx];simp
 | n+1,t,b+1,a,h,hf=>by
  rw [W6,decide_eq_true opx]
  show W6 kind times b (a++[{Act.zero with kind:=kind}]) (t+1)=_
  rw [C4w kind times n (t+1) b _ opx opx,List.append_assoc];rfl
theorem B6b (kind times:Int):N5 kind times=List.replicate times.toNat {Act.zero with kind:=kind}:=by
 unfold N5;rw [C4w kind times times.toNat 0 _ [] opx opx];rfl
theorem A9z {kind times:Int} {r:List Act} (h:N5 kind times=r) (c:times≤50):r.length≤50∧mwA r:=by
 subst h;rw [B6b]
 refine ⟨by rw [List.length_replicate];omega,by rw [List.length_replicate];omega,fun a b=>?_⟩
 rw [List.eq_of_mem_replicate b];exact ⟨rfl,show (-1000:Int)≤0 by omega,show (0:Int)≤1000 by omega,show (-1000:Int)≤0 by omega,show (0:Int)≤1000 by omega,fun _=>⟨show (0:Int)≤0 by omega,show (0:Int)≤3 by omega⟩⟩
theorem omj {p:Prop} (h:p:=by first|omega|(simp only [List.length_cons,List.length_nil,List.length_append,List.length_take,List.length_drop,B2,B5];omega)):p:=h
theorem A6u {kind times:Int} {R:List Act} (hR:N5 kind times=R) (l:times≤50:=by exact om_):Con Tryz.prog 82 [iv kind,iv times] [] [] ({r:VR // VOk 6 R.length r}) (fun x=>.slice (va x.1.q) R.length x.1.k) (fun x=>((vo A2 56 x.1 R)++([]))) (fun x=>[]):=by
 refine zce Tryz.func82 fun X hX hr hD=>?_
 replace hR:=(N5.eq_1 ..).symm.trans hR
 refine sR_ rfl (pp0 1 rfl (ie (sR_ rfl (pp1 1 5 rfl (ie (A5 (sR_ rfl (pp2 2 6 7 rfl (ie (B4 ?_))))))))))
 refine A5o (un fun (h:Nat)=>un fun (d:List Act)=>un fun (a:VR) (e:Nat)=>((times - (e:Int)).toNat<h∧W6 kind times h d e=R∧VOk 6 d.length a∧d.length=e,[(0,iv kind),(5,.slice (va a.q) d.length a.k),(6,iv times),(7,iv (e:Int))],((vo A2 56 a d)++([])),[],h)) (((times - (0:Int)).toNat+1),([]:List Act),VR.nil,0) ⟨(Nat.lt_succ_self _),hR,VOk.nil,odv⟩ sb_ fn0 ?_
 rintro ⟨h,d,a,e⟩ ⟨j,hR,b,o⟩
 have:=VOk.le b
 obtain ⟨fu1,rfl⟩:∃ m,h=m+1:=⟨h - 1,by omega⟩
 replace hR:=(W6.eq_2 ..).symm.trans hR
 refine sR_ rfl (pp1 1 8 rfl (ie (A5 ?_)))
 refine zjd rfl hR ?_ ?_<;>clear hR<;>intro hR s i
 ·refine A6 (nx (A5 (B4 (A1 6 rfl (zrl 3 3 [] [(9,.slice (va a.q) d.length a.k),(11,ag (A2 ({Act.zero with kind:=kind})))] (it rfl (C3 (c:=A2) (xs:=([{Act.zero with kind:=kind}]:List Act)) A5y rfl rfl rfl okl) fun p=>?_))))))
  have:([{Act.zero with kind:=kind}]:List Act).length=1:=rfl
  refine it rfl (B5c (f:=A2) (r:=a) (xs:=d) (ys:=([{Act.zero with kind:=kind}]:List Act)) (pre:=[]) (post:=[]) D6p (fun _=>rfl) (fun _=>rfl) rfl rfl rfl rfl rfl rfl rfl rfl rfl (B1 0 rfl) b omj omj) fun ⟨n,g⟩=>?_
  have:=VOk.le g
  have:=VOk.cap g
  refine pp1 1 5 rfl (A3 (nx (A1 2 rfl (ix rfl (C0 rfl rfl rfl rfl opx) (pp1 1 7 rfl (A3 ?_))))))
  exact A1r (z1:=(fu1+1,d,a,e)) (fu1,(d++([{Act.zero with kind:=kind}]:List Act)),n,e+1) ⟨opx,hR,g,(by (simp only [List.length_append,List.length_cons,List.length_nil];omega))⟩ (Nat.lt_succ_self _) sb_ fn0
 refine H3 (nx (sR_ rfl (pp1 2 4 rfl ?_)))
 subst hR
 refine ie (A8 ?_)
 exact zer hr hD (O3 rfl (B9 rfl)) ⟨a,b⟩ sb_ fn0
def I9 (c0:Pth):List (List Act) :=
 (bif (decide ((c0.to_.row - c0.frm.row)=0)) then (([]:List Act)::[]) else (bif (decide ((c0.to_.row - c0.frm.row)<0)) then (C9 (O5 0 (-(c0.to_.row - c0.frm.row))) fun (a:List Act)=>(a::[])) else (C9 (O5 1 (c0.to_.row - c0.frm.row)) fun (c:List Act)=>(c::(bif (decide ((c0.to_.row - c0.frm.row)≤4)) then (C9 (N5 5 (c0.to_.row - c0.frm.row)) fun (b:List Act)=>(b::[])) else [])))))
theorem D1c (c0:Pth) (d:0≤c0.frm.row∧c0.frm.row≤40∧0≤c0.to_.row∧c0.to_.row≤40):∀ e ∈ I9 c0,mwA e:=by
 unfold I9 C9
 intro e b
 rcases Int.lt_trichotomy c0.frm.row c0.to_.row with h | h | h
 ·rw [decide_eq_false (show ¬ c0.to_.row - c0.frm.row=0 by omega),decide_eq_false (show ¬ c0.to_.row - c0.frm.row<0 by omega)] at b
  have b:e ∈ O5 1 (c0.to_.row - c0.frm.row)::(bif decide (c0.to_.row - c0.frm.row≤4) then [N5 5 (c0.to_.row - c0.frm.row)] else []):=b
  rcases List.mem_cons.1 b with rfl | b
  ·exact B4j opx
  ·cases hd:decide (c0.to_.row - c0.frm.row≤4) with
   | true=>rw [hd] at b;rw [List.mem_singleton.1 b];exact (A9z rfl opx).2
   | false=>rw [hd] at b;cases b
 ·rw [decide_eq_true (show c0.to_.row - c0.frm.row=0 by omega)] at b;rw [List.mem_singleton.1 b];exact ⟨Nat.zero_le _,fun a c=>by cases c⟩
 ·rw [decide_eq_false (show ¬ c0.to_.row - c0.frm.row=0 by omega),decide_eq_true (show c0.to_.row - c0.frm.row<0 by omega)] at b
  rw [List.mem_singleton.1 b];exact B4j opx
theorem D7j (c0:Pth):(I9 c0).length≤2:=by
 unfold I9 C9;simp only [Bool.cond_eq_ite];repeat' split
 all_goals simp
theorem olv {p:Prop} (h:p:=by first|omega|(simp only [List.length_take,List.length_drop,List.length_append,List.length_cons,List.length_nil,List.length_set,List.length_map,B2,B5];omega)|decide):p:=h
theorem B4q (c0:Pth) (f:Addr) (hb:0≤c0.frm.row∧c0.frm.row≤40∧0≤c0.to_.row∧c0.to_.row≤40) (R:List (List Act)) (hR:I9 c0=R):B5j Tryz.prog 83 [pa f] [] [at_ f (H5 c0)] A2 R:=by
 refine C6d [] (n:=36) Tryz.func83 rfl okl rfl rfl (fun l=>[(0,.func (.yield l) #[] #[]),(1,pa f)]) (fun l=>⟨rfl,rfl,trivial⟩) fun X l I Ix L Φ hX hr hD hI0 hY=>?_
 replace hR:=(I9.eq_1 ..).symm.trans hR
 refine sr 8 rfl (ip' 2 6 [(5,pa (f.add 3))] (ix rfl (D6 (v:=iv c0.to_.row) (us:=[iv c0.to_.row]) ty3 rfl rfl (S3 (A3p (B1 0 rfl) (ws:=X5 c0.to_) 3 2 rfl) (ws:=[iv c0.to_.row]) 1 rfl) rfl) (ip' 2 3 [(8,pa f)] (ix rfl (D6 (v:=iv c0.frm.row) (us:=[iv c0.frm.row]) ty3 rfl rfl (S3 (S3 (B1 0 rfl) (ws:=B8 c0.frm) 3 rfl) (ws:=[iv c0.frm.row]) 1 rfl) rfl) (ix rfl (V9 rfl rfl rfl rfl opx) (ip' 1 0 [(3,iv (c0.to_.row - c0.frm.row))] (ie (B4 (sr 3 rfl (ip' 3 0 [(23,bv (decide ((c0.to_.row - c0.frm.row)=0)))] ?_))))))))))
 refine ie ?_
 refine zjd rfl hR ?_ ?_<;>clear hR<;>intro hR h1 ak
 ·refine A1 2 rfl (ip' 1 1 [(26,.func (.yield l) #[] #[])] ?_)
  have t:=B8p hR;clear hR;obtain ⟨R2,hR,t⟩:=t;rw [t] at hI0
  refine it rfl (A4z (L2:=[]) (hY ([]:List Act) R2 _ _ none 0 olv olv hI0) rfl rfl rfl rfl (B0.con1 B0g (B0.dropT 1 rfl)) (G9 [L] [0] 1 rfl ozw rfl [L] rfl ooa)) fun ⟨⟨y3,L4,Φ5⟩,y⟩=>?_
  refine A8l (B0.yield [at_ f (H5 c0)]) ?_
  subst hR
  refine A3 ?_
  exact Y0 rfl ⟨hr,hD⟩ (by simp [hD]) (A1a rfl) (L':=L4) (Φ':=Φ5) (by cases y3<;>first|exact .inr (by simpa using y)|exact .inl (by simpa using y)) (mcT [L4] 0 rfl rfl) (B0.dropT 1 rfl)
 refine sr 3 rfl (ip' 3 0 [(28,bv (decide ((c0.to_.row - c0.frm.row)<0)))] (ie ?_))
 refine zjd rfl hR ?_ ?_<;>clear hR<;>intro hR h8 ai
 ·refine A1 5 rfl (ip' 2 3 [(31,.func (.yield l) #[] #[]),(32,iv (c0.to_.row - c0.frm.row))] (ix rfl (B5u rfl rfl rfl opx) ?_))
  have hQ:=D0 hR;clear hR;obtain ⟨y1,a1,hR⟩:=hQ
  refine zcm (A4h (n:=0) (m:=(-(c0.to_.row - c0.frm.row))) a1) fn0 fun ⟨⟨q9,a9⟩,a0⟩=>?_
  obtain ⟨ad,af⟩:=a0
  have:y1.length=1:=by rw [← a1];rfl
  have o:=B8p hR;clear hR;obtain ⟨R14,hR,o⟩:=o;rw [o] at hI0
  refine it rfl (A4z (L2:=[]) (hY y1 R14 _ _ q9 a9 olv olv hI0) rfl rfl rfl rfl (B0.con1 (B1 0 rfl) (B0.dropT 2 rfl)) (G9 [L] [0] 1 rfl ozw rfl [L] rfl ooa)) fun ⟨⟨a8,L16,Φ17⟩,p⟩=>?_
  refine A8l (B0.yield [sl A2 q9 y1,at_ f (H5 c0)]) ?_
  subst hR
  refine A3 ?_
  exact Y0 rfl ⟨hr,hD⟩ (by simp [hD]) (A1a rfl) (L':=L16) (Φ':=Φ17) (by cases a8<;>first|exact .inr (by simpa using p)|exact .inl (by simpa using p)) (mcT [L16] 0 rfl rfl) (B0.dropT 2 rfl)
 refine sr 8 rfl (ip' 2 6 [(11,.func (.yield l) #[] #[]),(12,iv (c0.to_.row - c0.frm.row))] ?_)
 have hQ:=D0 hR;clear hR;obtain ⟨y4,a4,hR⟩:=hQ
 refine zcm (A4h (n:=1) (m:=(c0.to_.row - c0.frm.row)) a4) fn0 fun ⟨⟨u,a6⟩,z⟩=>?_
 obtain ⟨ab,ae⟩:=z
 have:y4.length=1:=by rw [← a4];rfl
 have j:=B8p hR;clear hR;obtain ⟨R25,hR,j⟩:=j;rw [j] at hI0
 refine it rfl (A4z (L2:=[]) (hY y4 R25 _ _ u a6 olv olv hI0) rfl rfl rfl rfl (B0.con1 (B1 0 rfl) (B0.dropT 2 rfl)) (G9 [L] [0] 1 rfl ozw rfl [L] rfl ooa)) fun ⟨⟨a2,L27,Φ28⟩,a⟩=>?_
 refine A8l (B0.yield [sl A2 u y4,at_ f (H5 c0)]) ?_
 refine ip' 1 3 [(15,bv a2)] ?_
 rcases Bool.eq_false_or_eq_true a2 with h | h
 ·refine D6s (b:=true) 15 rfl (by first|exact h|(rw [h];rfl)) ?_
  rw [h] at a;try simp only [if_true,if_false,Bool.false_eq_true] at a
  refine ip' 3 0 [(18,bv (decide ((c0.to_.row - c0.frm.row)≤4)))] (ie ?_)
  refine zjd rfl hR ?_ ?_<;>clear hR<;>intro hR aj ah
  ·refine A1 4 rfl (ip' 2 2 [(19,.func (.yield l) #[] #[]),(20,iv (c0.to_.row - c0.frm.row))] ?_)
   have hQ:=D0 hR;clear hR;obtain ⟨x,w,hR⟩:=hQ
   refine it rfl (V8 (L2:=(L27++([]))) (A6u (kind:=5) (times:=(c0.to_.row - c0.frm.row)) w opx) rfl rfl rfl rfl rfl fn0 (List.Perm.refl _) (fun ⟨g,e⟩=>(L27++((vo A2 56 g x)++([])))) (fun ⟨g,e⟩=>G9 [vo A2 56 g x,L27] [1,0] 2 rfl ozw opv [L27,vo A2 56 g x] rfl opv)) fun ⟨g,e⟩=>?_
   have:=VOk.le e
   have:=VOk.cap e
   have d:=A9z w opx
   have:=d.1;try rw [w] at this
   have:=VOk.cap e
   have:=VOk.le e
   refine A4k (L27++([])) [] (T:=56) (c:=A2) (r:=g) (xs:=x) e oll ?_
   refine B1f (L':=(L27++([]))) opv ?_
   have i:=B8p hR;clear hR;obtain ⟨R35,hR,i⟩:=i;rw [i] at a
   refine it rfl (A4z (L2:=[]) (hY x R35 _ _ (va g.q) g.k olv olv a) rfl rfl rfl rfl (B0.con1 (B1 0 rfl) (B0.dropT 3 rfl)) (G9 [L27] [0] 1 rfl ozw rfl [L27] rfl ooa)) fun ⟨⟨aa,L37,Φ38⟩,s⟩=>?_
   refine A8l (B0.yield [sl A2 (va g.q) x,sl A2 u y4,at_ f (H5 c0)]) ?_
   subst hR
   refine A3 ?_
   exact Y0 rfl ⟨hr,hD⟩ (by simp [hD]) (A1a rfl) (L':=L37) (Φ':=Φ38) (by cases aa<;>first|exact .inr (by simpa using s)|exact .inl (by simpa using s)) (mcT [L37] 0 rfl rfl) (B0.dropT 3 rfl)
  subst hR
  refine A6 ?_
  exact Y0 rfl ⟨hr,hD⟩ (by simp [hD]) (A1a rfl) (L':=L27) (Φ':=Φ28) (by exact .inl a) (mcT [L27] 0 rfl rfl) (B0.dropT 2 rfl)
 ·refine D6s (b:=false) 15 rfl (by first|exact h|(rw [h];rfl)) ?_
  rw [h] at a;try simp only [if_true,if_false,Bool.false_eq_true] at a
  refine ip' 3 0 [(18,bv false)] (ie (A0f rfl (A6 ?_)))
  exact Y0 rfl ⟨hr,hD⟩ (by simp [hD]) (A1a rfl) (L':=L27) (Φ':=Φ28) (by exact .inr a) (mcT [L27] 0 rfl rfl) (B0.dropT 2 rfl)
def I7 (p:Pth) (a:List (List Act)):List (List Act) :=
 (bif (decide (p.to_.col=0)) then (C9 (N5 6 1) fun (d:List Act)=>(a++([d]:List (List Act)))) else (C9 (N5 6 1) fun (c:List Act)=>(C9 (O5 2 p.to_.col) fun (b:List Act)=>(a++([(c++b)]:List (List Act))))))
def J6 (p:Pth) (a:List (List Act)):List (List Act) :=
 (bif ((decide ((p.to_.col - p.frm.col)<0))&&(decide ((-(p.to_.col - p.frm.col))≤4))) then (C9 (N5 3 (-(p.to_.col - p.frm.col))) fun (b:List Act)=>I7 p (a++([b]:List (List Act)))) else I7 p a)
def I5 (p:Pth) (a:List (List Act)):List (List Act) :=
 (bif (decide ((p.to_.col - p.frm.col)<0)) then (C9 (O5 3 (-(p.to_.col - p.frm.col))) fun (b:List Act)=>J6 p (a++([b]:List (List Act)))) else J6 p a)
def M2 (p:Pth) (a:List (List Act)):List (List Act) :=
 (bif (decide ((0:Int)<(p.to_.col - p.frm.col))) then (C9 (O5 2 (p.to_.col - p.frm.col)) fun (b:List Act)=>I5 p ((a++([([{Act.zero with kind:=22,n:=(p.to_.col+1)}]:List Act)]:List (List Act)))++([b]:List (List Act)))) else I5 p (a++([([{Act.zero with kind:=22,n:=(p.to_.col+1)}]:List Act)]:List (List Act))))
def O9 (p:Pth):List (List Act) :=
 (bif (decide ((p.to_.col - p.frm.col)=0)) then M2 p (([]:List (List Act))++([([]:List Act)]:List (List Act))) else M2 p ([]:List (List Act)))
theorem B2t (p:Pth) (g:0≤p.frm.col∧p.frm.col≤80∧0≤p.to_.col∧p.to_.col≤80) (c:List (List Act)) (h:∀ e ∈ c,mwA e):(∀ e ∈ I7 p c,mwA e)∧(I7 p c).length=c.length+1:=by
 have f:(N5 6 1).length≤50∧mwA (N5 6 1):=A9z rfl opx
 unfold I7 C9
 cases decide (p.to_.col=0) with
 | true=>exact ⟨fun e b=>by rcases List.mem_append.1 b with b | b;exact h e b;rw [List.mem_singleton.1 b];exact f.2,by simp⟩
 | false =>
  refine ⟨fun e b=>?_,by simp⟩
  rcases List.mem_append.1 b with b | b
  ·exact h e b
  ·rw [List.mem_singleton.1 b]
   refine ⟨?_,fun a d=>?_⟩
   ·rw [List.length_append,B6b,List.length_replicate];show 1+1≤50;omega
   ·rcases List.mem_append.1 d with d | d
    ·exact f.2.2 a d
    ·rw [List.mem_singleton.1 d];exact (B4j (n:=2) (m:=p.to_.col) opx).2 _ (List.mem_singleton.2 rfl)
theorem B3s (p:Pth) (c:0≤p.frm.col∧p.frm.col≤80∧0≤p.to_.col∧p.to_.col≤80) (a:List (List Act)) (h:∀ e ∈ a,mwA e):(∀ e ∈ J6 p a,mwA e)∧(J6 p a).length≤a.length+2:=by
 unfold J6 C9
 cases hc:((decide ((p.to_.col - p.frm.col)<0))&&(decide ((-(p.to_.col - p.frm.col))≤4))) with
 | true =>
  simp only [Bool.and_eq_true,decide_eq_true_eq] at hc
  have d:=B2t p c (a++[N5 3 (-(p.to_.col - p.frm.col))]) (fun e b=>by
   rcases List.mem_append.1 b with b | b
   ·exact h e b
   ·rw [List.mem_singleton.1 b];exact (A9z rfl opx).2)
  exact ⟨d.1,by have:=d.2;rw [List.length_append] at this;show (I7 p _).length≤_;rw [this];exact Nat.le_refl _⟩
 | false=>exact ⟨(B2t p c a h).1,by have:=(B2t p c a h).2;show (I7 p _).length≤_;omega⟩
theorem C5j {b:List (List Act)} (h:∀ e ∈ b,mwA e) {x:List Act} (c:mwA x):∀ e ∈ b++[x],mwA e:=fun e a=>by
 rcases List.mem_append.1 a with a | a
 ·exact h e a
 ·rw [List.mem_singleton.1 a];exact c
theorem B3d (p:Pth) (b:0≤p.frm.col∧p.frm.col≤80∧0≤p.to_.col∧p.to_.col≤80) (a:List (List Act)) (h:∀ e ∈ a,mwA e):(∀ e ∈ I5 p a,mwA e)∧(I5 p a).length≤a.length+3:=by
 unfold I5 C9
 cases hq:decide ((p.to_.col - p.frm.col)<0) with
 | true =>
  have c:=B3s p b (a++[O5 3 (-(p.to_.col - p.frm.col))]) (C5j h (B4j (by have:=of_decide_eq_true hq;omega)))
  exact ⟨c.1,by have:=c.2;rw [List.length_append] at this;show (J6 p _).length≤_;exact this⟩
 | false=>exact ⟨(B3s p b a h).1,by have:=(B3s p b a h).2;show (J6 p _).length≤_;omega⟩
theorem B2p (p:Pth) (c:0≤p.frm.col∧p.frm.col≤80∧0≤p.to_.col∧p.to_.col≤80) (b:List (List Act)) (h:∀ e ∈ b,mwA e):(∀ e ∈ M2 p b,mwA e)∧(M2 p b).length≤b.length+5:=by
 have d:=C5j h (D3y (a:={Act.zero with kind:=22,n:=p.to_.col+1}) ⟨rfl,show -1000≤p.to_.col+1 by omega,show p.to_.col+1≤1000 by omega,show (-1000:Int)≤0 by omega,show (0:Int)≤1000 by omega,fun h=>absurd (show (22:Int)=20 from h) ozw⟩)
 unfold M2 C9
 cases hq:decide ((0:Int)<(p.to_.col - p.frm.col)) with
 | true =>
  have f:=B3d p c _ (C5j d (B4j (n:=2) (m:=p.to_.col - p.frm.col) (by have:=of_decide_eq_true hq;omega)))
  exact ⟨f.1,by have:=f.2;rw [List.length_append,List.length_append] at this;show (I5 p _).length≤_;exact this⟩
 | false=>exact ⟨(B3d p c _ d).1,by have:=(B3d p c _ d).2;rw [List.length_append] at this;show (I5 p _).length≤_;exact Nat.le_trans this (by simp only [List.length_cons,List.length_nil];omega)⟩
theorem C7h {p:Pth} {r:List (List Act)} (hr:O9 p=r) (c:0≤p.frm.col∧p.frm.col≤80∧0≤p.to_.col∧p.to_.col≤80):(∀ e ∈ r,mwA e)∧r.length≤6:=by
 subst hr;unfold O9
 cases decide ((p.to_.col - p.frm.col)=0) with
 | true=>exact B2p p c ([[]]:List (List Act)) (fun e b=>by rw [List.mem_singleton.1 b];exact ⟨Nat.le_of_ble_eq_true rfl,fun a d=>by cases d⟩)
 | false=>exact ⟨(B2p p c [] (fun e b=>by cases b)).1,Nat.le_trans (B2p p c [] (fun e b=>by cases b)).2 oom⟩
theorem B4x {p:Pth} {R:List (List Act)} (hR:O9 p=R) (hb:0≤p.frm.col∧p.frm.col≤80∧0≤p.to_.col∧p.to_.col≤80:=by exact om_):Con Tryz.prog 27 [ag (H5 p)] [] [] ({t:VR×List Slc // VOk 1 R.length t.1∧D5 t.2 R}) (fun x=>.slice (va x.1.1.q) R.length x.1.1.k) (fun x=>((vo N1 27 x.1.1 x.1.2)++([]))) (fun x=>[I1 A2 x.1.2 R]):=by
 refine zce Tryz.func27 fun X hX hr hD=>?_
 replace hR:=(O9.eq_1 ..).symm.trans hR
 refine sR_ rfl (H9 2 0 [] (fun o=>[(1,pt o 0)]) (fun o=>[bx o (H5 p) 58]) (fun o=>(ie (sR_ rfl (pl2 6 [0,0] 7 10 rfl (ix rfl (V9 rfl rfl rfl rfl opx) (pp1 1 3 rfl (ie (sR_ rfl (pp1 1 4 rfl ?_))))))))))
 refine ie (C1d (un fun (i:List (List Act))=>un fun (ad:VR) (d:List Slc)=>(M2 p i=R∧VOk 1 i.length ad∧D5 d i∧i.length≤1,[(1,pt o 0),(3,iv (p.to_.col - p.frm.col)),(4,.slice (va ad.q) i.length ad.k)],(bx o (H5 p) 58::((vo N1 27 ad d)++([]))),[I1 A2 d i])) ?_ ?_)
 ·refine sR_ rfl (pp1 2 13 rfl (ie ?_))
  refine zjd rfl hR ?_ ?_<;>clear hR<;>intro hR h2 cr
  ·refine A1 4 rfl (pp1 1 14 rfl (it rfl (C3 (c:=N1) (xs:=([⟨none,0,0⟩]:List Slc)) C0k rfl rfl rfl okl) fun b3=>?_))
   have ar:D5 ([⟨none,0,0⟩]:List Slc) ([([]:List Act)]:List (List Act)):=(D5.cons ⟨ooy,olv,olv⟩ D5.none)
   refine D7 (q:=I1 A2 ([⟨none,0,0⟩]:List Slc) ([([]:List Act)]:List (List Act))) (A1h B0g P5) ?_
   have:([⟨none,0,0⟩]:List Slc).length=1:=rfl
   refine D7 (q:=I1 A2 [] ([]:List (List Act))) P5 ?_
   have c8:D5 (([]:List Slc)++([⟨none,0,0⟩]:List Slc)) (([]:List (List Act))++([([]:List Act)]:List (List Act))):=D5.append D5.none ar
   refine it rfl (V3 (r:=VR.nil) (rs:=([]:List Slc)) (xss:=([]:List (List Act))) (pre:=[bx o (H5 p) 58]) (post:=[]) C2g rfl rfl rfl rfl rfl rfl rfl rfl rfl (B1 2 rfl) (B1 0 rfl) (B1 1 rfl) D5.none ar VOk.nil omj omj) fun ⟨r5,bl⟩=>?_
   have:=VOk.le bl
   have:=VOk.cap bl
   have:([]:List (List Act)).length=0:=rfl
   have:([([]:List Act)]:List (List Act)).length=1:=rfl
   have:(([]:List (List Act))++([([]:List Act)]:List (List Act))).length=([]:List (List Act)).length+1:=List.length_append
   refine pp1 1 4 rfl (A3 ?_)
   exact A5f ((([]:List (List Act))++([([]:List Act)]:List (List Act))),r5,(([]:List Slc)++([⟨none,0,0⟩]:List Slc))) ⟨hR,bl,c8,ozq⟩ sb_ fo_
  refine A6 (P9 (G9 [vo N1 27 VR.nil ([]:List Slc),[bx o (H5 p) 58]] [1,0] 2 rfl ozw rfl [[bx o (H5 p) 58],vo N1 27 VR.nil ([]:List Slc)] rfl opv) ?_)
  exact A5f (([]:List (List Act)),VR.nil,([]:List Slc)) ⟨hR,VOk.nil,D5.none,ozq⟩ sb_ fo_
 rintro ⟨i,ad,d⟩
 rintro ⟨hR,b6,a4,hj⟩
 replace hR:=(M2.eq_1 ..).symm.trans hR
 refine sR_ rfl (pl2 4 [0] 17 20 rfl (ix rfl (C0 rfl rfl rfl rfl opx) (zrl 1 4 [] [(22,ag (A2 ({Act.zero with kind:=22,n:=(p.to_.col+1)})))] (it rfl (C3 (c:=A2) (xs:=([{Act.zero with kind:=22,n:=(p.to_.col+1)}]:List Act)) A5y rfl rfl rfl okl) fun b8=>?_))))
 have:([{Act.zero with kind:=22,n:=(p.to_.col+1)}]:List Act).length=1:=rfl
 refine it rfl (C3 (c:=N1) (xs:=([⟨some ⟨b8,0,none⟩,1,1⟩]:List Slc)) C0k rfl rfl rfl okl) fun b9=>?_
 have ai:D5 ([⟨some ⟨b8,0,none⟩,1,1⟩]:List Slc) ([([{Act.zero with kind:=22,n:=(p.to_.col+1)}]:List Act)]:List (List Act)):=(D5.cons ⟨ooy,olv,olv⟩ D5.none)
 refine D7 (q:=I1 A2 ([⟨some ⟨b8,0,none⟩,1,1⟩]:List Slc) ([([{Act.zero with kind:=22,n:=(p.to_.col+1)}]:List Act)]:List (List Act))) (A1h (B1 1 rfl) P5) ?_
 have:([⟨some ⟨b8,0,none⟩,1,1⟩]:List Slc).length=1:=rfl
 have bd:D5 (d++([⟨some ⟨b8,0,none⟩,1,1⟩]:List Slc)) (i++([([{Act.zero with kind:=22,n:=(p.to_.col+1)}]:List Act)]:List (List Act))):=D5.append a4 ai
 refine it rfl (V3 (r:=ad) (rs:=d) (xss:=i) (pre:=[bx o (H5 p) 58]) (post:=[]) C2g rfl rfl rfl rfl rfl rfl rfl rfl rfl (B1 1 rfl) (B1 3 rfl) (B1 0 rfl) a4 ai b6 omj omj) fun ⟨bo,aq⟩=>?_
 have:=VOk.le aq
 have:=VOk.cap aq
 have:([([{Act.zero with kind:=22,n:=(p.to_.col+1)}]:List Act)]:List (List Act)).length=1:=rfl
 have:(i++([([{Act.zero with kind:=22,n:=(p.to_.col+1)}]:List Act)]:List (List Act))).length=i.length+1:=List.length_append
 refine pp1 1 4 rfl ?_
 refine ie (C1d (un fun (j:List (List Act))=>un fun (y:VR) (e:List Slc)=>(I5 p j=R∧VOk 1 j.length y∧D5 e j∧j.length≤3,[(1,pt o 0),(3,iv (p.to_.col - p.frm.col)),(4,.slice (va y.q) j.length y.k)],(bx o (H5 p) 58::((vo N1 27 y e)++([]))),[I1 A2 (d++([⟨some ⟨b8,0,none⟩,1,1⟩]:List Slc)) (i++([([{Act.zero with kind:=22,n:=(p.to_.col+1)}]:List Act)]:List (List Act))),I1 A2 ([⟨some ⟨b8,0,none⟩,1,1⟩]:List Slc) ([([{Act.zero with kind:=22,n:=(p.to_.col+1)}]:List Act)]:List (List Act)),sl N1 (some ⟨b9,0,none⟩) ([⟨some ⟨b8,0,none⟩,1,1⟩]:List Slc),sl A2 (some ⟨b8,0,none⟩) ([{Act.zero with kind:=22,n:=(p.to_.col+1)}]:List Act),I1 A2 d i,I1 A2 e j])) ?_ ?_)
 ·refine sR_ rfl (pp1 2 27 rfl (ie ?_))
  refine zjd rfl hR ?_ ?_<;>clear hR<;>intro hR cs cl
  ·refine A1 6 rfl (pp2 2 28 29 rfl ?_)
   have hQ:=D0 hR;clear hR;obtain ⟨y1,c1,hR⟩:=hQ
   refine zc rfl (A4h c1) fun ⟨⟨av,b0⟩,bu⟩=>?_
   obtain ⟨cd,cb⟩:=bu
   have:y1.length=1:=by rw [← c1];rfl
   refine it rfl (C3 (c:=N1) (xs:=([⟨av,y1.length,b0⟩]:List Slc)) C0k rfl rfl rfl okl) fun cm=>?_
   have ak:D5 ([⟨av,y1.length,b0⟩]:List Slc) ([y1]:List (List Act)):=(D5.cons ⟨ooy,olv,olv⟩ D5.none)
   refine D7 (q:=I1 A2 ([⟨av,y1.length,b0⟩]:List Slc) ([y1]:List (List Act))) (A1h (B1 1 rfl) P5) ?_
   have:([⟨av,y1.length,b0⟩]:List Slc).length=1:=rfl
   have c2:D5 ((d++([⟨some ⟨b8,0,none⟩,1,1⟩]:List Slc))++([⟨av,y1.length,b0⟩]:List Slc)) ((i++([([{Act.zero with kind:=22,n:=(p.to_.col+1)}]:List Act)]:List (List Act)))++([y1]:List (List Act))):=D5.append bd ak
   refine it rfl (V3 (r:=bo) (rs:=(d++([⟨some ⟨b8,0,none⟩,1,1⟩]:List Slc))) (xss:=(i++([([{Act.zero with kind:=22,n:=(p.to_.col+1)}]:List Act)]:List (List Act)))) (pre:=[bx o (H5 p) 58]) (post:=[]) C2g rfl rfl rfl rfl rfl rfl rfl rfl rfl (B1 1 rfl) (B1 3 rfl) (B1 0 rfl) bd ak aq omj omj) fun ⟨c6,b5⟩=>?_
   have:=VOk.le b5
   have:=VOk.cap b5
   have:([y1]:List (List Act)).length=1:=rfl
   have:((i++([([{Act.zero with kind:=22,n:=(p.to_.col+1)}]:List Act)]:List (List Act)))++([y1]:List (List Act))).length=(i++([([{Act.zero with kind:=22,n:=(p.to_.col+1)}]:List Act)]:List (List Act))).length+1:=List.length_append
   refine pp1 1 4 rfl (A3 ?_)
   exact A5f (((i++([([{Act.zero with kind:=22,n:=(p.to_.col+1)}]:List Act)]:List (List Act)))++([y1]:List (List Act))),c6,((d++([⟨some ⟨b8,0,none⟩,1,1⟩]:List Slc))++([⟨av,y1.length,b0⟩]:List Slc))) ⟨hR,b5,c2,ozq⟩ sb_ fo_
  refine A6 ?_
  exact A5f ((i++([([{Act.zero with kind:=22,n:=(p.to_.col+1)}]:List Act)]:List (List Act))),bo,(d++([⟨some ⟨b8,0,none⟩,1,1⟩]:List Slc))) ⟨hR,aq,bd,ozq⟩ sb_ fo_
 rintro ⟨j,y,e⟩
 rintro ⟨hR,aa,s,hj⟩
 replace hR:=(I5.eq_1 ..).symm.trans hR
 refine C1d (un fun (m:List (List Act))=>un fun (w:VR) (g:List Slc)=>(J6 p m=R∧VOk 1 m.length w∧D5 g m∧m.length≤4,[(1,pt o 0),(3,iv (p.to_.col - p.frm.col)),(4,.slice (va w.q) m.length w.k)],(bx o (H5 p) 58::((vo N1 27 w g)++([]))),[I1 A2 (d++([⟨some ⟨b8,0,none⟩,1,1⟩]:List Slc)) (i++([([{Act.zero with kind:=22,n:=(p.to_.col+1)}]:List Act)]:List (List Act))),I1 A2 ([⟨some ⟨b8,0,none⟩,1,1⟩]:List Slc) ([([{Act.zero with kind:=22,n:=(p.to_.col+1)}]:List Act)]:List (List Act)),sl N1 (some ⟨b9,0,none⟩) ([⟨some ⟨b8,0,none⟩,1,1⟩]:List Slc),sl A2 (some ⟨b8,0,none⟩) ([{Act.zero with kind:=22,n:=(p.to_.col+1)}]:List Act),I1 A2 d i,I1 A2 e j,I1 A2 g m])) ?_ ?_
 ·refine sR_ rfl (pp1 2 34 rfl (ie ?_))
  refine zjd rfl hR ?_ ?_<;>clear hR<;>intro hR cn ck
  ·refine A1 7 rfl (pp2 2 35 36 rfl (ix rfl (B5u rfl rfl rfl opx) ?_))
   have hQ:=D0 hR;clear hR;obtain ⟨y4,bq,hR⟩:=hQ
   refine zc rfl (A4h bq) fun ⟨⟨b2,aw⟩,bm⟩=>?_
   obtain ⟨ch,cj⟩:=bm
   have:y4.length=1:=by rw [← bq];rfl
   refine it rfl (C3 (c:=N1) (xs:=([⟨b2,y4.length,aw⟩]:List Slc)) C0k rfl rfl rfl okl) fun co=>?_
   have ah:D5 ([⟨b2,y4.length,aw⟩]:List Slc) ([y4]:List (List Act)):=(D5.cons ⟨ooy,olv,olv⟩ D5.none)
   refine D7 (q:=I1 A2 ([⟨b2,y4.length,aw⟩]:List Slc) ([y4]:List (List Act))) (A1h (B1 1 rfl) P5) ?_
   have:([⟨b2,y4.length,aw⟩]:List Slc).length=1:=rfl
   have c0:D5 (e++([⟨b2,y4.length,aw⟩]:List Slc)) (j++([y4]:List (List Act))):=D5.append s ah
   refine it rfl (V3 (r:=y) (rs:=e) (xss:=j) (pre:=[bx o (H5 p) 58]) (post:=[]) C2g rfl rfl rfl rfl rfl rfl rfl rfl rfl (B1 1 rfl) (B1 8 rfl) (B1 0 rfl) s ah aa omj omj) fun ⟨c7,ba⟩=>?_
   have:=VOk.le ba
   have:=VOk.cap ba
   have:([y4]:List (List Act)).length=1:=rfl
   have:(j++([y4]:List (List Act))).length=j.length+1:=List.length_append
   refine pp1 1 4 rfl (A3 ?_)
   exact A5f ((j++([y4]:List (List Act))),c7,(e++([⟨b2,y4.length,aw⟩]:List Slc))) ⟨hR,ba,c0,ozq⟩ sb_ fo_
  refine A6 ?_
  exact A5f (j,y,e) ⟨hR,aa,s,ozq⟩ sb_ fo_
 rintro ⟨m,w,g⟩
 rintro ⟨hR,ae,u,hj⟩
 replace hR:=(J6.eq_1 ..).symm.trans hR
 refine C1d (un fun (h:List (List Act))=>un fun (b:VR) (a:List Slc)=>(I7 p h=R∧VOk 1 h.length b∧D5 a h∧h.length≤5,[(1,pt o 0),(4,.slice (va b.q) h.length b.k)],(bx o (H5 p) 58::((vo N1 27 b a)++([]))),[I1 A2 (d++([⟨some ⟨b8,0,none⟩,1,1⟩]:List Slc)) (i++([([{Act.zero with kind:=22,n:=(p.to_.col+1)}]:List Act)]:List (List Act))),I1 A2 ([⟨some ⟨b8,0,none⟩,1,1⟩]:List Slc) ([([{Act.zero with kind:=22,n:=(p.to_.col+1)}]:List Act)]:List (List Act)),sl N1 (some ⟨b9,0,none⟩) ([⟨some ⟨b8,0,none⟩,1,1⟩]:List Slc),sl A2 (some ⟨b8,0,none⟩) ([{Act.zero with kind:=22,n:=(p.to_.col+1)}]:List Act),I1 A2 d i,I1 A2 e j,I1 A2 g m,I1 A2 a h])) ?_ ?_
 ·refine sR_ rfl (pp1 3 43 rfl ?_)
  refine zid 4 0 43 47 (decide ((-(p.to_.col - p.frm.col))≤4)) (fun ca cf=>?_) ?_
  ·refine pp1 1 44 rfl (ix rfl (B5u rfl rfl rfl opx) (pp1 2 47 rfl ?_))
   exact A3 (P7 4 43 47 ca B0.refl sb_ rfl rfl rfl rfl rfl)
  refine ie ?_
  refine zja rfl hR ?_ ?_<;>clear hR<;>intro hR ct cc
  ·refine A1 7 rfl (pp2 2 48 49 rfl (ix rfl (B5u rfl rfl rfl opx) ?_))
   have hQ:=D0 hR;clear hR;obtain ⟨y0,bi,hR⟩:=hQ
   refine zc rfl (A6u bi) fun ⟨a1,an⟩=>?_
   have:=VOk.le an
   have:=VOk.cap an
   have a5:=A9z bi opx
   have:=a5.1;try rw [bi] at this
   have:=VOk.cap an
   have:=VOk.le an
   refine A4k [bx o (H5 p) 58] ((vo N1 27 w g)++([])) (T:=56) (c:=A2) (r:=a1) (xs:=y0) an oll ?_
   refine it rfl (C3 (c:=N1) (xs:=([⟨va a1.q,y0.length,a1.k⟩]:List Slc)) C0k rfl rfl rfl okl) fun cq=>?_
   have aj:D5 ([⟨va a1.q,y0.length,a1.k⟩]:List Slc) ([y0]:List (List Act)):=(D5.cons ⟨ooy,olv,olv⟩ D5.none)
   refine D7 (q:=I1 A2 ([⟨va a1.q,y0.length,a1.k⟩]:List Slc) ([y0]:List (List Act))) (A1h (B1 1 rfl) P5) ?_
   have:([⟨va a1.q,y0.length,a1.k⟩]:List Slc).length=1:=rfl
   have bw:D5 (g++([⟨va a1.q,y0.length,a1.k⟩]:List Slc)) (m++([y0]:List (List Act))):=D5.append u aj
   refine it rfl (V3 (r:=w) (rs:=g) (xss:=m) (pre:=[bx o (H5 p) 58]) (post:=[]) C2g rfl rfl rfl rfl rfl rfl rfl rfl rfl (B1 1 rfl) (B1 9 rfl) (B1 0 rfl) u aj ae omj omj) fun ⟨c5,bb⟩=>?_
   have:=VOk.le bb
   have:=VOk.cap bb
   have:([y0]:List (List Act)).length=1:=rfl
   have:(m++([y0]:List (List Act))).length=m.length+1:=List.length_append
   refine pp1 1 4 rfl (A3 ?_)
   exact A5f ((m++([y0]:List (List Act))),c5,(g++([⟨va a1.q,y0.length,a1.k⟩]:List Slc))) ⟨hR,bb,bw,ozq⟩ sb_ fo_
  refine A6 ?_
  exact A5f (m,w,g) ⟨hR,ae,u,ozq⟩ sb_ fo_
 rintro ⟨h,b,a⟩
 rintro ⟨hR,ab,l,hj⟩
 replace hR:=(I7.eq_1 ..).symm.trans hR
 refine A5 (sR_ rfl (pl1 4 [0] 57 rfl ?_))
 refine ie ?_
 refine zjd rfl hR ?_ ?_<;>clear hR<;>intro hR cu ci
 ·refine sR_ rfl (pp1 1 58 rfl ?_)
  have hQ:=D0 hR;clear hR;obtain ⟨y8,bk,hR⟩:=hQ
  refine zc rfl (A6u bk) fun ⟨a2,af⟩=>?_
  have:=VOk.le af
  have:=VOk.cap af
  have a3:=A9z bk opx
  have:=a3.1;try rw [bk] at this
  have:=VOk.cap af
  have:=VOk.le af
  refine A4k [bx o (H5 p) 58] ((vo N1 27 b a)++([])) (T:=56) (c:=A2) (r:=a2) (xs:=y8) af oll ?_
  refine it rfl (C3 (c:=N1) (xs:=([⟨va a2.q,y8.length,a2.k⟩]:List Slc)) C0k rfl rfl rfl okl) fun cp=>?_
  have al:D5 ([⟨va a2.q,y8.length,a2.k⟩]:List Slc) ([y8]:List (List Act)):=(D5.cons ⟨ooy,olv,olv⟩ D5.none)
  refine D7 (q:=I1 A2 ([⟨va a2.q,y8.length,a2.k⟩]:List Slc) ([y8]:List (List Act))) (A1h (B1 1 rfl) P5) ?_
  have:([⟨va a2.q,y8.length,a2.k⟩]:List Slc).length=1:=rfl
  have br:D5 (a++([⟨va a2.q,y8.length,a2.k⟩]:List Slc)) (h++([y8]:List (List Act))):=D5.append l al
  refine it rfl (V3 (r:=b) (rs:=a) (xss:=h) (pre:=[bx o (H5 p) 58]) (post:=[]) C2g rfl rfl rfl rfl rfl rfl rfl rfl rfl (B1 1 rfl) (B1 10 rfl) (B1 0 rfl) l al ab omj omj) fun ⟨c9,bc⟩=>?_
  have:=VOk.le bc
  have:=VOk.cap bc
  have:([y8]:List (List Act)).length=1:=rfl
  have:(h++([y8]:List (List Act))).length=h.length+1:=List.length_append
  refine pp1 1 2 rfl ?_
  subst hR
  refine ie (A8 ?_)
  exact zer hr hD (O3 rfl (B9 rfl)) ⟨(c9,(a++([⟨va a2.q,y8.length,a2.k⟩]:List Slc))),⟨bc,br⟩⟩ sb_ fo_
 refine A6 (nx ?_)
 refine sh 10 [(10,[bx o (H5 p) 58]),(8,vo N1 27 b a)] [I1 A2 (d++([⟨some ⟨b8,0,none⟩,1,1⟩]:List Slc)) (i++([([{Act.zero with kind:=22,n:=(p.to_.col+1)}]:List Act)]:List (List Act))),I1 A2 ([⟨some ⟨b8,0,none⟩,1,1⟩]:List Slc) ([([{Act.zero with kind:=22,n:=(p.to_.col+1)}]:List Act)]:List (List Act)),sl N1 (some ⟨b9,0,none⟩) ([⟨some ⟨b8,0,none⟩,1,1⟩]:List Slc),sl A2 (some ⟨b8,0,none⟩) ([{Act.zero with kind:=22,n:=(p.to_.col+1)}]:List Act),I1 A2 d i,I1 A2 e j,I1 A2 g m,I1 A2 a h] (bx o (H5 p) 58::((vo N1 27 b a)++([]))) (zml 10 0) okl rfl okl okl okl sb_ B0.refl ?_
 refine zhp [0,2,3] 7 (zml 10 13) [(62,.slice (va b.q) h.length b.k),(65,pt o 4)] ?_
 refine zhl 4 [bx o (H5 p) 58] (zml 10 29) rfl (A7 (v:=iv p.to_.col) ty3 rfl rfl 0 rfl rfl) ?_
 have hQ:=D0 hR;clear hR;obtain ⟨y5,bh,hR⟩:=hQ
 refine zho 1 (bx o (H5 p) 58::((vo N1 27 b a)++([]))) (zml 10 31) rfl (V8 (L2:=(bx o (H5 p) 58::((vo N1 27 b a)++([])))) (A6u bh) rfl rfl rfl rfl rfl fn0 (List.Perm.refl _) (fun ⟨a9,a8⟩=>(bx o (H5 p) 58::((vo A2 56 a9 y5)++((vo N1 27 b a)++([]))))) (fun ⟨a9,a8⟩=>G9 [vo A2 56 a9 y5,[bx o (H5 p) 58],vo N1 27 b a] [1,0,2] 3 rfl ozw opv [[bx o (H5 p) 58],vo A2 56 a9 y5,vo N1 27 b a] rfl opv)) (fun ⟨a9,a8⟩=>sb_) (fun ⟨a9,a8⟩=>B0.refl) fun ⟨a9,a8⟩=>?_
 have:=VOk.le a8
 have:=VOk.cap a8
 have a0:=A9z bh opx
 have:=a0.1;try rw [bh] at this
 have hQ:=D0 hR;clear hR;obtain ⟨y7,bz,hR⟩:=hQ
 refine zho 5 (bx o (H5 p) 58::((vo N1 27 b a)++([]))) (zml 10 63) rfl (C8 (L2:=(bx o (H5 p) 58::((vo A2 56 a9 y5)++((vo N1 27 b a)++([]))))) (A4h bz) rfl rfl rfl rfl rfl fn0 (List.Perm.refl _) (fun ⟨⟨bj,bg⟩,au⟩=>(bx o (H5 p) 58::((vo A2 56 a9 y5)++((vo N1 27 b a)++([]))))) (fun _=>by first|rfl|simp)) (fun ⟨⟨bj,bg⟩,au⟩=>sb_) (fun ⟨⟨bj,bg⟩,au⟩=>fo_) fun ⟨⟨bj,bg⟩,au⟩=>?_
 obtain ⟨cg,ce⟩:=au
 have:y7.length=1:=by rw [← bz];rfl
 refine zho 6 (bx o (H5 p) 58::((vo N1 27 b a)++([]))) (zml 10 127) rfl (C3q (f:=A2) (r:=a9) (xs:=y5) (ys:=y7) (pre:=[bx o (H5 p) 58]) (post:=((vo N1 27 b a)++([]))) D6p (fun _=>rfl) (fun _=>rfl) rfl rfl rfl rfl rfl rfl rfl rfl (B1 0 rfl) a8 omj omj) (fun ⟨z,a7⟩=>sb_) (fun ⟨z,a7⟩=>fo_) fun ⟨z,a7⟩=>?_
 have:=@List.length_append _ y5 y7
 have:=VOk.le a7
 have:=VOk.cap a7
 have:=VOk.cap a7
 have:=VOk.le a7
 refine D9f [bx o (H5 p) 58] ((vo N1 27 b a)++([])) (T:=56) (c:=A2) (r:=z) (xs:=(y5++y7)) a7 oll (bx o (H5 p) 58::((vo N1 27 b a)++([]))) rfl sb_ ?_
 refine zho 7 (bx o (H5 p) 58::((vo N1 27 b a)++([]))) (zml 10 255) rfl (C3 (c:=N1) (xs:=([⟨va z.q,(y5++y7).length,z.k⟩]:List Slc)) C0k rfl rfl rfl okl) (fun bn=>sb_) (fun bn=>fo_) fun bn=>?_
 have ao:D5 ([⟨va z.q,(y5++y7).length,z.k⟩]:List Slc) ([(y5++y7)]:List (List Act)):=(D5.cons ⟨ooy,olv,olv⟩ D5.none)
 refine D8o (q:=I1 A2 ([⟨va z.q,(y5++y7).length,z.k⟩]:List Slc) ([(y5++y7)]:List (List Act))) (A1h (B1 1 rfl) P5) ?_
 have:([⟨va z.q,(y5++y7).length,z.k⟩]:List Slc).length=1:=rfl
 have bp:D5 (a++([⟨va z.q,(y5++y7).length,z.k⟩]:List Slc)) (h++([(y5++y7)]:List (List Act))):=D5.append l ao
 refine zho 8 [bx o (H5 p) 58] (zml 10 511) rfl (V3 (r:=b) (rs:=a) (xss:=h) (pre:=[bx o (H5 p) 58]) (post:=[]) C2g rfl rfl rfl rfl rfl rfl rfl rfl rfl (B1 1 rfl) (B1 11 rfl) (B1 0 rfl) l ao ab omj omj) (fun ⟨be,am⟩=>sb_) (fun ⟨be,am⟩=>fo_) fun ⟨be,am⟩=>?_
 have:=VOk.le am
 have:=VOk.cap am
 have:([(y5++y7)]:List (List Act)).length=1:=rfl
 have:(h++([(y5++y7)]:List (List Act))).length=h.length+1:=List.length_append
 refine zhp [9] 0 (zml 10 1023) [(2,.slice (va be.q) ((h++([(y5++y7)]:List (List Act))).length) be.k)] ?_
 refine A3w okl ?_
 subst hR
 refine A8 ?_
 exact zer hr hD (O3 rfl (B9 rfl)) ⟨(be,(a++([⟨va z.q,(y5++y7).length,z.k⟩]:List Slc))),⟨am,bp⟩⟩ sb_ fo_
def G2 (c0:Pth) (b:List Act) (a:List (List Act)):List (List Act)→Nat→List (List Act)
 | [],t16=>a
 | hd_l2::tl_l2,t16=>(bif ((decide (((b++hd_l2).length:Int)=0))&&c0.frm.wrap) then G2 c0 b a tl_l2 (t16+1) else ((b++hd_l2)::G2 c0 b a tl_l2 (t16+1)))
def F1 (c0:Pth):List (List Act)→List (List Act)
 | []=>(([{Act.zero with kind:=19,n:=(c0.to_.row+1),m:=(c0.to_.col+1)}]:List Act)::[])
 | el::rest=>(C9 (O9 c0) fun (a:List (List Act))=>G2 c0 el (F1 c0 rest) a 0)
def H1 (c0:Pth):List (List Act) :=
 F1 c0 (I9 (B5 c0))
theorem C5i (c0:Pth) (h:List Act) (c:mwA h) (ag:List (List Act)) (g:∀ e ∈ ag,B2l e):∀ (l:List (List Act)) (f:∀ e ∈ l,mwA e) (b:Nat),(∀ e ∈ G2 c0 h ag l b,B2l e)∧(G2 c0 h ag l b).length≤l.length+ag.length
 | [],_,b=>⟨g,by rw [G2];simp⟩
 | x::l,f,b=>by
  have j:=C5i c0 h c ag g l (fun e d=>f e (List.mem_cons_of_mem _ d)) (b+1)
  rw [G2]
  cases ((decide (((h++x).length:Int)=0))&&c0.frm.wrap) with
  | true=>exact ⟨j.1,by have:=j.2;simp only [cond_true,List.length_cons];omega⟩
  | false =>
   refine ⟨fun e d=>?_,by have:=j.2;simp only [cond_false,List.length_cons];omega⟩
   rcases List.mem_cons.1 d with d | d
   ·rw [d]
    have k:mwA x:=f x (List.mem_cons_self ..)
    exact ⟨by rw [List.length_append];have:=c.1;have:=k.1;omega,fun a i=>by rcases List.mem_append.1 i with i | i;exact c.2 a i;exact k.2 a i⟩
   ·exact j.1 e d
theorem C4x (c0:Pth) (f:(0≤c0.frm.row∧c0.frm.row≤40∧0≤c0.to_.row∧c0.to_.row≤40)∧(0≤c0.frm.col∧c0.frm.col≤80∧0≤c0.to_.col∧c0.to_.col≤80)):∀ (l:List (List Act)),(∀ e ∈ l,mwA e)→(∀ e ∈ F1 c0 l,B2l e)∧(F1 c0 l).length≤6 * l.length+1
 | [],_=>⟨fun e b=>by
   rw [F1] at b
   rw [List.mem_singleton.1 b];exact ⟨Nat.le_of_ble_eq_true rfl,fun a i=>by rw [List.mem_singleton.1 i];exact ⟨rfl,show -1000≤c0.to_.row+1 by omega,show c0.to_.row+1≤1000 by omega,show -1000≤c0.to_.col+1 by omega,show c0.to_.col+1≤1000 by omega,fun h=>absurd (show (19:Int)=20 from h) ozw⟩⟩,by rw [F1];exact Nat.le_refl _⟩
 | el::rest,h=>by
  have c:=C4x c0 f rest (fun e b=>h e (List.mem_cons_of_mem _ b))
  have d:=C7h (p:=c0) rfl f.2
  have g:=C5i c0 el (h el (List.mem_cons_self ..)) _ c.1 (O9 c0) d.1 0
  rw [F1];unfold C9
  exact ⟨g.1,by have:=g.2;have:=c.2;have:=d.2;simp only [List.length_cons];omega⟩
theorem B3q {c0:Pth} (a:(0≤c0.frm.row∧c0.frm.row≤40∧0≤c0.to_.row∧c0.to_.row≤40)∧(0≤c0.frm.col∧c0.frm.col≤80∧0≤c0.to_.col∧c0.to_.col≤80)):(∀ e ∈ H1 c0,B2l e)∧(H1 c0).length≤13:=by
 have h:=C4x c0 a (I9 c0) (D1c c0 a.1)
 have:=D7j c0
 exact ⟨h.1,by have:=h.2;show (F1 c0 (I9 c0)).length≤13;omega⟩
theorem A7l (c0:Pth) (j:Addr) (hb:(0≤c0.frm.row∧c0.frm.row≤40∧0≤c0.to_.row∧c0.to_.row≤40)∧(0≤c0.frm.col∧c0.frm.col≤80∧0≤c0.to_.col∧c0.to_.col≤80)) (R:List (List Act)) (hR:H1 c0=R):B5j Tryz.prog 26 [pa j] [] [at_ j (H5 c0)] A2 R:=by
 refine C6d [] (n:=53) Tryz.func26 rfl okl rfl rfl (fun l=>[(0,.func (.yield l) #[] #[]),(1,pa j)]) (fun l=>⟨rfl,rfl,trivial⟩) fun X l I Ix L Φ hX hr hD hI0 hY=>?_
 replace hR:=(H1.eq_1 ..).symm.trans hR
 refine sr 1 rfl (H9 1 0 [] (fun g=>[(2,pt g 0)]) (fun g=>(bx g [.func (.yield l) #[] #[]] 93::(L++([])))) (fun g=>(ie (sr 4 rfl (ix rfl (L8 (us:=H5 c0) E2z rfl rfl (B1 0 rfl) rfl) ?_)))))
 refine H9 3 0 [0] (fun h=>[(3,pt h 0)]) (fun h=>(bx h [.func (.func 27) #[ag (H5 c0)] #[]] 94::bx g [.func (.yield l) #[] #[]] 93::(L++([])))) (fun h=>?_)
 refine ie (A5 (sr 2 rfl (ix rfl (L8 (us:=H5 c0) E2z rfl rfl (B1 0 rfl) rfl) ?_)))
 refine zcm (B7v (p:=c0) rfl) fn0 fun b3=>?_
 refine ie (B4 (D0d [(1,pa j),(2,pt g 0),(3,pt h 0),(11,.func (.func 83) #[] #[pa b3])] ⟨rfl,rfl,rfl,rfl,trivial⟩ ?_))
 refine C0r (cc:=A2) (xs:=(I9 (B5 c0))) (σ:=List (List Act)×Fen.Own×List Pers) hr rfl (B4q (B5 c0) b3 (by first|exact hb.1|(dsimp only;omega)) _ rfl) (B0.cons (B1 0 rfl) fn0) rfl rfl (fun w x=>F1 c0 w=x.1∧I x.1 x.2.1 x.2.2∧(∀ e ∈ w,mwA e)) (fun c x=>c=.ret∧Ix x.2.1 x.2.2) (fun x=>(bx h [.func (.func 27) #[ag (H5 c0)] #[]] 94::bx g [.func (.yield l) #[] #[]] 93::(x.2.1++([])))) (fun x=>(at_ b3 (H5 (B5 c0))::at_ j (H5 c0)::x.2.2)) (R,L,Φ) (by exact ⟨hR,hI0,(by exact D1c c0 hb.1)⟩) (mc [[bx h [.func (.func 27) #[ag (H5 c0)] #[]] 94],[bx g [.func (.yield l) #[] #[]] 93],L] [true,true,true] rfl oxs) (B0.con1 (B1 0 rfl) (B0.con1 (B1 1 rfl) (B0.dropT 2 rfl))) ?_ ?_ ?_
 ·rintro u rest ⟨R_,Lt,Ft⟩ a0 ad b4 b6 hI Y Y' K' bb hK
  try dsimp only at hI
  obtain ⟨hR,z,af⟩:=hI
  replace hR:=(F1.eq_2 ..).symm.trans hR
  refine A1 1 rfl (ip' 1 0 [(4,.slice a0 u.length ad)] (A3 (hK _ _ _ ?_)))
  refine B4 (sr 4 rfl (zrl 1 3 [0] [(13,.func (.func 27) #[ag (H5 c0)] #[])] ?_))
  have hQ:=D0 hR;clear hR;obtain ⟨o,ae,hR⟩:=hQ
  refine it rfl (V8 (L2:=(bx h [.func (.func 27) #[ag (H5 c0)] #[]] 94::bx g [.func (.yield l) #[] #[]] 93::(Lt++([])))) (B4x (p:=c0) ae (by first|exact hb.2|(dsimp only;omega))) rfl rfl rfl rfl rfl fn0 (List.Perm.refl _) (fun ⟨⟨r7,b⟩,y⟩=>(bx h [.func (.func 27) #[ag (H5 c0)] #[]] 94::bx g [.func (.yield l) #[] #[]] 93::(Lt++((vo N1 27 r7 b)++([]))))) (fun ⟨⟨r7,b⟩,y⟩=>G9 [vo N1 27 r7 b,[bx h [.func (.func 27) #[ag (H5 c0)] #[]] 94],[bx g [.func (.yield l) #[] #[]] 93],Lt] [1,2,3,0] 4 rfl ozw opv [[bx h [.func (.func 27) #[ag (H5 c0)] #[]] 94],[bx g [.func (.yield l) #[] #[]] 93],Lt,vo N1 27 r7 b] rfl opv)) fun ⟨⟨r7,b⟩,y⟩=>?_
  try dsimp only at y
  obtain ⟨ai,i⟩:=y
  have:=VOk.le ai
  have:=VOk.cap ai
  have:=i.1
  have ak:=C7h ae (by first|exact hb.2|(dsimp only;omega))
  have:=ak.2;try rw [ae] at this
  refine A4k (bx h [.func (.func 27) #[ag (H5 c0)] #[]] 94::bx g [.func (.yield l) #[] #[]] 93::(Lt++([]))) [] (T:=27) (c:=N1) (r:=r7) (xs:=b) (VOk.cast ai (by rw [i.1])) oll ?_
  refine B1f (L':=(bx h [.func (.func 27) #[ag (H5 c0)] #[]] 94::bx g [.func (.yield l) #[] #[]] 93::(Lt++([])))) opv ?_
  refine ip' 2 0 [(15,iv (o.length:Int)),(16,iv 0)] (ie (B4 ?_))
  refine D9c (fun (a:Nat) (R_1:List (List Act)) (Lt1:Fen.Own) (Ft1:List Pers)=>(a≤o.length∧G2 c0 u (F1 c0 rest) (o.drop a) a=R_1∧I R_1 Lt1 Ft1,[(1,pa j),(2,pt g 0),(3,pt h 0),(4,.slice a0 u.length ad),(11,.func (.func 83) #[] #[pa b3]),(14,.slice (va r7.q) o.length r7.k),(15,iv (o.length:Int)),(16,iv (a:Int))],(bx h [.func (.func 27) #[ag (H5 c0)] #[]] 94::bx g [.func (.yield l) #[] #[]] 93::(Lt1++([]))),(sl N1 (va r7.q) b::I1 A2 b o::sl A2 a0 u::at_ b3 (H5 (B5 c0))::at_ j (H5 c0)::Ft1),o.length - a)) 0 R_ Lt Ft ⟨opx,hR,z⟩ (mc [[bx h [.func (.func 27) #[ag (H5 c0)] #[]] 94],[bx g [.func (.yield l) #[] #[]] 93],Lt] [true,true,true] rfl oxs) (B0.con1 (B1 0 rfl) (B0.con1 (B1 1 rfl) (B0.con1 (B1 2 rfl) (B0.con1 (B1 3 rfl) (B0.con1 (B1 4 rfl) (B0.dropT 5 rfl)))))) ?_
  rintro a R_1 Lt1 Ft1 ⟨ax,hR,t⟩
  have b0:=(af u (List.mem_cons_self ..)).1
  have ay:=D6j ak.1 a
  refine sr 1 rfl (ip' 1 0 [(17,bv (decide ((a:Int)<(o.length:Int))))] ?_)
  refine ie (A5 (W8 rfl (fun ah=>?_) (fun ah=>?_)))
  ·have a9:(a:Int)<(o.length:Int):=by simpa using ah
   rw [A0r [] (show a<o.length by omega)] at hR;replace hR:=(G2.eq_2 ..).symm.trans hR
   refine A6 (nx (A5 (B4 (sr 3 rfl (P3 0 rfl (by have:=i.1;omega) fun b8 aa=>(D7 (B2a (k:=a) (d:=(⟨none,0,0⟩:Slc)) i 1 rfl (by have:=i.1;omega)) ?_))))))
   have:=B1q i (k:=a) (d:=(⟨none,0,0⟩:Slc)) (by have:=i.1;omega)
   refine ix rfl (K2 C0k rfl rfl aa rfl a rfl opx) (ix rfl (I2 (D6 (v:=.slice ((b.getD a (⟨none,0,0⟩:Slc)).q) ((b.getD a (⟨none,0,0⟩:Slc)).n) ((b.getD a (⟨none,0,0⟩:Slc)).k)) (us:=[.slice ((b.getD a (⟨none,0,0⟩:Slc)).q) ((b.getD a (⟨none,0,0⟩:Slc)).n) ((b.getD a (⟨none,0,0⟩:Slc)).k)]) E4u rfl rfl (N0 (c:=N1) (sz:=1) aa (fun _=>rfl) 1 rfl (gd (⟨none,0,0⟩:Slc) (by have:=i.1;omega))) rfl) (B2o i (by have:=i.1;omega))) (ip' 1 0 [(6,.slice ((b.getD a (⟨none,0,0⟩:Slc)).q) ((o.getD a []).length) ((b.getD a (⟨none,0,0⟩:Slc)).k))] (ie (sr 9 rfl (ip' 5 4 [(20,.slice a0 u.length ad),(22,iv (u.length:Int)),(24,iv (u.length:Int))] (ix rfl (C5h (n':=u.length) A5y rfl rfl u.length u.length (A3t rfl rfl) (A3t rfl rfl) opx opx (by first|rfl|omega) rfl) (ip' 1 2 [(26,.slice ((b.getD a (⟨none,0,0⟩:Slc)).q) ((o.getD a []).length) ((b.getD a (⟨none,0,0⟩:Slc)).k))] (it rfl (C3k (f:=A2) (xs:=u) (ys:=(o.getD a [])) D6p (fun _=>rfl) (fun _=>rfl) rfl rfl rfl rfl rfl rfl opx opx odv (B1 3 rfl) (B1 0 rfl) omj omj) fun ⟨⟨a7,ab⟩,az⟩=>?_))))))))
   have:=@List.length_append _ u (o.getD a [])
   refine ip' 1 0 [(7,.slice a7 ((u++(o.getD a [])).length) ab)] (ie (A5 (sr 8 rfl (ip' 4 4 [(31,bv (decide (((u++(o.getD a [])).length:Int)=0)))] ?_))))
   refine zid 4 0 31 35 c0.frm.wrap (fun av aw=>?_) ?_
   ·refine ip' 2 2 [(33,pa (j.add 2))] (ix rfl (D6 (v:=bv c0.frm.wrap) (us:=[bv c0.frm.wrap]) ty4 rfl rfl (A3p (S3 (B1 6 rfl) (ws:=B8 c0.frm) 3 rfl) (ws:=[bv c0.frm.wrap]) 2 1 rfl) rfl) (ip' 1 0 [(35,bv c0.frm.wrap)] ?_))
    exact A3 (P7 4 31 35 av B0.refl (mc [[bx h [.func (.func 27) #[ag (H5 c0)] #[]] 94],[bx g [.func (.yield l) #[] #[]] 93],Lt1] [true,true,true] rfl oxs) rfl rfl rfl rfl rfl)
   refine ie ?_
   refine zjb rfl hR ?_ ?_<;>clear hR<;>intro hR am
   ·have a1:=am;try simp only [Bool.and_eq_true,Bool.or_eq_true,Bool.and_eq_false_iff,Bool.or_eq_false_iff,Bool.not_eq_true',Bool.not_eq_false',decide_eq_true_eq,decide_eq_false_iff_not] at a1
    refine H3 (nx (A1 2 rfl (ix rfl (C0 rfl rfl rfl rfl opx) ?_)))
    refine ip' 1 0 [(16,iv ((a:Int)+1))] (A3 ?_)
    exact D8p (z1:=a) (z2:=R_1) (z3:=Lt1) (z4:=Ft1) (a+1) R_1 Lt1 Ft1 ⟨opx,hR,t⟩ olr (mc [[bx h [.func (.func 27) #[ag (H5 c0)] #[]] 94],[bx g [.func (.yield l) #[] #[]] 93],Lt1] [true,true,true] rfl oxs) (B0.con1 (B1 2 rfl) (B0.con1 (B1 3 rfl) (B0.con1 (B1 4 rfl) (B0.con1 (B1 5 rfl) (B0.con1 (B1 6 rfl) (B0.dropT 7 rfl))))))
   have a1:=am;try simp only [Bool.and_eq_true,Bool.or_eq_true,Bool.and_eq_false_iff,Bool.or_eq_false_iff,Bool.not_eq_true',Bool.not_eq_false',decide_eq_true_eq,decide_eq_false_iff_not] at a1
   refine A6 (nx (sr 4 rfl (zrl 2 2 [1] [(36,.func (.yield l) #[] #[]),(37,.slice a7 ((u++(o.getD a [])).length) ab)] ?_)))
   have a4:=B8p hR;clear hR;obtain ⟨R21,hR,a4⟩:=a4;rw [a4] at t
   refine it rfl (A4z (L2:=[bx h [.func (.func 27) #[ag (H5 c0)] #[]] 94,bx g [.func (.yield l) #[] #[]] 93]) (hY (u++(o.getD a [])) R21 _ _ a7 ab olv olv t) rfl rfl rfl rfl (B0.con1 (B1 0 rfl) (B0.dropT 7 rfl)) (G9 [[bx h [.func (.func 27) #[ag (H5 c0)] #[]] 94],[bx g [.func (.yield l) #[] #[]] 93],Lt1] [2,0,1] 3 rfl ozw rfl [Lt1,[bx h [.func (.func 27) #[ag (H5 c0)] #[]] 94],[bx g [.func (.yield l) #[] #[]] 93]] rfl ooa)) fun ⟨⟨aj,L23,Φ24⟩,s⟩=>?_
   refine A8l (B0.yield [sl A2 a7 (u++(o.getD a [])),sl A2 ((b.getD a (⟨none,0,0⟩:Slc)).q) (o.getD a []),sl N1 (va r7.q) b,I1 A2 b o,sl A2 a0 u,at_ b3 (H5 (B5 c0)),at_ j (H5 c0)]) ?_
   refine ip' 1 0 [(39,bv (!aj))] ?_
   refine ie (W8 rfl (fun ac=>?_) (fun ac=>?_))
   ·have a3:aj=false:=by simpa using ac
    rw [a3] at s;try simp only [if_true,if_false,Bool.false_eq_true] at s
    refine A8 (P9 (G9 [L23,[bx h [.func (.func 27) #[ag (H5 c0)] #[]] 94],[bx g [.func (.yield l) #[] #[]] 93]] [1,2,0] 3 rfl ozw rfl [[bx h [.func (.func 27) #[ag (H5 c0)] #[]] 94],[bx g [.func (.yield l) #[] #[]] 93],L23] rfl opv) ?_)
    refine E2h (I:=fun w x=>F1 c0 w=x.1∧I x.1 x.2.1 x.2.2∧(∀ e ∈ w,mwA e)) (Jx:=fun c x=>c=.ret∧Ix x.2.1 x.2.2) (Lk:=fun x=>(bx h [.func (.func 27) #[ag (H5 c0)] #[]] 94::bx g [.func (.yield l) #[] #[]] 93::(x.2.1++([])))) (Φk:=fun x=>(at_ b3 (H5 (B5 c0))::at_ j (H5 c0)::x.2.2)) (rest:=rest) (R21,L23,Φ24) (by exact ⟨rfl,s⟩) (mc [[bx h [.func (.func 27) #[ag (H5 c0)] #[]] 94],[bx g [.func (.yield l) #[] #[]] 93],L23] [true,true,true] rfl oxs) ?_
    exact (B0.con1 (B1 5 rfl) (B0.con1 (B1 6 rfl) (B0.dropT 7 rfl)))
   ·have a3:aj=true:=by simpa using ac
    rw [a3] at s;try simp only [if_true,if_false,Bool.false_eq_true] at s
    refine A6 (nx (A1 2 rfl (ix rfl (C0 rfl rfl rfl rfl opx) (ip' 1 0 [(16,iv ((a:Int)+1))] (A3 (P9 (G9 [L23,[bx h [.func (.func 27) #[ag (H5 c0)] #[]] 94],[bx g [.func (.yield l) #[] #[]] 93]] [1,2,0] 3 rfl ozw rfl [[bx h [.func (.func 27) #[ag (H5 c0)] #[]] 94],[bx g [.func (.yield l) #[] #[]] 93],L23] rfl opv) ?_))))))
    exact D8p (z1:=a) (z2:=R_1) (z3:=Lt1) (z4:=Ft1) (a+1) R21 L23 Φ24 ⟨opx,hR,s⟩ olr (mc [[bx h [.func (.func 27) #[ag (H5 c0)] #[]] 94],[bx g [.func (.yield l) #[] #[]] 93],L23] [true,true,true] rfl oxs) (B0.con1 (B1 2 rfl) (B0.con1 (B1 3 rfl) (B0.con1 (B1 4 rfl) (B0.con1 (B1 5 rfl) (B0.con1 (B1 6 rfl) (B0.dropT 7 rfl))))))
  have a9:¬ ((a:Int)<(o.length:Int)):=by simpa using ah
  rw [A1i a9] at hR;replace hR:=(G2.eq_1 ..).symm.trans hR
  refine H3 ?_
  refine A9e (I:=fun w x=>F1 c0 w=x.1∧I x.1 x.2.1 x.2.2∧(∀ e ∈ w,mwA e)) (Jx:=fun c x=>c=.ret∧Ix x.2.1 x.2.2) (Lk:=fun x=>(bx h [.func (.func 27) #[ag (H5 c0)] #[]] 94::bx g [.func (.yield l) #[] #[]] 93::(x.2.1++([])))) (Φk:=fun x=>(at_ b3 (H5 (B5 c0))::at_ j (H5 c0)::x.2.2)) (rest:=rest) (R_1,Lt1,Ft1) (by exact ⟨hR,t,(by exact fun e he=>af e (List.mem_cons_of_mem _ he))⟩) (mc [[bx h [.func (.func 27) #[ag (H5 c0)] #[]] 94],[bx g [.func (.yield l) #[] #[]] 93],Lt1] [true,true,true] rfl oxs) ?_
  exact (B0.con1 (B1 3 rfl) (B0.con1 (B1 4 rfl) (B0.dropT 5 rfl)))
 ·rintro b5 ⟨R_,Lt,Ft⟩ ao hI
  try dsimp only at hI
  obtain ⟨hR,z,af⟩:=hI
  replace hR:=(F1.eq_1 ..).symm.trans hR
  refine nx (A1 12 rfl (zrl 3 9 [1] [(41,.func (.yield l) #[] #[]),(43,pa (j.add 3))] (ix rfl (D6 (v:=iv c0.to_.row) (us:=[iv c0.to_.row]) ty3 rfl rfl (S3 (A3p (B1 1 rfl) (ws:=X5 c0.to_) 3 2 rfl) (ws:=[iv c0.to_.row]) 1 rfl) rfl) (ix rfl (C0 rfl rfl rfl rfl opx) (ip' 2 5 [(47,pa ((j.add 3).add 1))] (ix rfl (D6 (v:=iv c0.to_.col) (us:=[iv c0.to_.col]) ty3 rfl rfl (A3p (A3p (B1 1 rfl) (ws:=X5 c0.to_) 3 2 rfl) (ws:=[iv c0.to_.col]) 1 1 rfl) rfl) (ix rfl (C0 rfl rfl rfl rfl opx) (zrl 1 2 [] [(50,ag (A2 ({Act.zero with kind:=19,n:=(c0.to_.row+1),m:=(c0.to_.col+1)})))] ?_))))))))
  refine it rfl (C3 (c:=A2) (xs:=([{Act.zero with kind:=19,n:=(c0.to_.row+1),m:=(c0.to_.col+1)}]:List Act)) A5y rfl rfl rfl okl) fun al=>?_
  have:([{Act.zero with kind:=19,n:=(c0.to_.row+1),m:=(c0.to_.col+1)}]:List Act).length=1:=rfl
  have a2:=B8p hR;clear hR;obtain ⟨R30,hR,a2⟩:=a2;rw [a2] at z
  refine it rfl (A4z (L2:=[bx h [.func (.func 27) #[ag (H5 c0)] #[]] 94,bx g [.func (.yield l) #[] #[]] 93]) (hY ([{Act.zero with kind:=19,n:=(c0.to_.row+1),m:=(c0.to_.col+1)}]:List Act) R30 _ _ (some ⟨al,0,none⟩) 1 olv olv z) rfl rfl rfl rfl (B0.con1 (B1 0 rfl) (B0.dropT 3 rfl)) (G9 [[bx h [.func (.func 27) #[ag (H5 c0)] #[]] 94],[bx g [.func (.yield l) #[] #[]] 93],Lt] [2,0,1] 3 rfl ozw rfl [Lt,[bx h [.func (.func 27) #[ag (H5 c0)] #[]] 94],[bx g [.func (.yield l) #[] #[]] 93]] rfl ooa)) fun ⟨⟨au,L32,Φ33⟩,a8⟩=>?_
  refine A8l (B0.yield [sl A2 (some ⟨al,0,none⟩) ([{Act.zero with kind:=19,n:=(c0.to_.row+1),m:=(c0.to_.col+1)}]:List Act),at_ b3 (H5 (B5 c0)),at_ j (H5 c0)]) ?_
  subst hR
  refine A3 ?_
  exact Y0 rfl ⟨hr,hD⟩ (by exact (V4.cons (show V4 X.D by rw [hD];exact V4.nil) ao)) (A1a rfl) (L':=L32) (Φ':=Φ33) (by cases au<;>first|exact .inr (by simpa using a8)|exact .inl (by simpa using a8)) (mcT [L32,[bx h [.func (.func 27) #[ag (H5 c0)] #[]] 94],[bx g [.func (.yield l) #[] #[]] 93]] 0 rfl rfl) (B0.dropT 3 rfl)
 ·rintro b9 _ ⟨R_,Lt,Ft⟩ ap ⟨rfl,an⟩
  try dsimp only at an
  refine A8 ?_
  exact C0s rfl ⟨hr,hD⟩ (by exact (V4.cons (show V4 X.D by rw [hD];exact V4.nil) ap)) (A1a rfl) (L':=Lt) (Φ':=Ft) (by exact .inr an) (mcT [[bx h [.func (.func 27) #[ag (H5 c0)] #[]] 94],[bx g [.func (.yield l) #[] #[]] 93],Lt] 2 rfl rfl) (B0.dropT 2 rfl)
def I8:List (List Act)→List Act→Int→(List Act×Int)
 | [],ffoundway,ffoundcost=>(ffoundway,0)
 | el::rest,ffoundway,ffoundcost=>(C9 (U1 el) fun (a:List UInt8×Int)=>(bif ((!decide (a.2=0))||((decide ((0:Int)≤ffoundcost))&&(decide (ffoundcost≤(a.1.length:Int))))) then I8 rest ffoundway ffoundcost else I8 rest el (a.1.length:Int)))
def J4 (b:Int) (c:Int) (a:Cur) (d:Plc):List Act×Int :=
 (bif (!decide ((G1 b c (⟨a,d⟩:Pth))=0)) then (([]:List Act),(G1 b c (⟨a,d⟩:Pth))) else I8 (H1 (B2 (⟨a,d⟩:Pth))) ([]:List Act) (-1))
theorem B3b:∀ (l:List (List Act)) (w:List Act) (k:Int),(∀ e ∈ l,B2l e)→B2l w→B2l (I8 l w k).1∧(I8 l w k).2=0
 | [],w,k,_,hw=>⟨hw,rfl⟩
 | el::l,w,k,h,hw=>by
  have a:=fun e b=>h e (List.mem_cons_of_mem _ b)
  rw [I8];simp only [C9]
  cases ((!decide ((U1 el).2=0))||((decide ((0:Int)≤k))&&(decide (k≤((U1 el).1.length:Int))))) with
  | true=>exact B3b l w k a hw
  | false=>exact B3b l el _ a (h el (List.mem_cons_self ..))
theorem D9a (c r:Int) (f:Cur) (t:Plc):J4 c r f t=bif !decide (G1 c r ⟨f,t⟩=0) then ([],G1 c r ⟨f,t⟩) else I8 (H1 ⟨f,t⟩) [] (-1):=rfl
theorem C3i {c r:Int} {f:Cur} {t:Plc} {R:List Act×Int} (h:J4 c r f t=R):B2l R.1:=by
 subst h;rw [D9a]
 have b:B2l ([]:List Act):=⟨Nat.zero_le _,fun a d=>by cases d⟩
 cases hc:(!decide (G1 c r ⟨f,t⟩=0)) with
 | true=>exact b
 | false=>exact (B3b _ _ _ (B3q (B0f hc)).1 b).1
theorem A6y {u r:Int} {a:Cur} {f:Plc} {R:List Act×Int} (hR:J4 u r a f=R):Con Tryz.prog 5 [iv u,iv r,ag (B8 a),ag (X5 f)] [] [A4n,A4q,P0,O4,K0,S7] ({t:Option Addr×Nat // R.1.length≤t.2∧R.1.length≤9223372036854775807}) (fun x=>.tuple #[.slice x.1.1 R.1.length x.1.2,iv R.2]) (fun x=>[]) (fun x=>[sl A2 x.1.1 R.1]):=by
 refine zce Tryz.func5 fun X hX hr hD=>?_
 replace hR:=(J4.eq_1 ..).symm.trans hR
 refine sR_ rfl (A8j 4 0 [] (fun m n=>[(6,pt m 0),(7,pt n 0)]) (fun m n=>[bx n (X5 f) 25,bx m (B8 a) 23]) (fun m n=>(ie (D3t (sR_ rfl (H9 5 0 [1,0,0] (fun p=>[(10,pt p 0)]) (fun p=>[bx p (H5 (⟨a,f⟩:Pth)) 58,bx n (X5 f) 25,bx m (B8 a) 23]) (fun p=>(ie (A5 (sR_ rfl (zrl 3 2 [0] [(19,iv u),(20,iv r),(21,ag (H5 (⟨a,f⟩:Pth)))] (zv rfl (B1p rfl) (pp1 1 11 rfl (ie (sR_ rfl (pp1 2 24 rfl (ie ?_)))))))))))))))))
 refine zjn rfl hR ?_ ?_<;>clear hR<;>intro hR h4 aj
 ·refine sR_ rfl (pp2 3 8 9 rfl ?_)
  subst hR
  refine ie (A8 ?_)
  exact zer hr hD (U6 rfl (B9 rfl) (B9 rfl)) (zq none 0) (mk [false,false,false] rfl) fo_
 have a1:=B0f h4
 refine A6 (nx (sR_ rfl (H9 4 0 [0] (fun o=>[(12,pt o 0)]) (fun o=>[bx o [.slice none 0 0,iv (-1)] 63,bx p (H5 (⟨a,f⟩:Pth)) 58,bx n (X5 f) 25,bx m (B8 a) 23]) (fun o=>(ie (A5 (D3r (nx (A5 (sR_ rfl (zrl 1 1 [1] [(28,ag (H5 (⟨a,f⟩:Pth)))] ?_)))))))))))
 refine zc rfl (A9q rfl) fun b6=>?_
 refine ie (B4 (D0d [(12,pt o 0),(29,.func (.func 26) #[] #[pa b6])] ⟨rfl,rfl,trivial⟩ ?_))
 refine C0r (cc:=A2) (xs:=(H1 (B2 (⟨a,f⟩:Pth)))) (σ:=List Act×Option Addr×Nat×Int) hr rfl (A7l (B2 (⟨a,f⟩:Pth)) b6 (by first|exact a1|assumption) _ rfl) fo_ rfl rfl (fun l x=>I8 l x.1 x.2.2.2=R∧x.1.length≤x.2.2.1∧x.1.length≤9223372036854775807∧(∀ e ∈ l,B2l e)) (fun _ _=>False) (fun x=>[bx o [.slice x.2.1 x.1.length x.2.2.1,iv x.2.2.2] 63,bx p (H5 (⟨a,f⟩:Pth)) 58,bx n (X5 f) 25,bx m (B8 a) 23]) (fun x=>[at_ b6 (H5 (B2 (⟨a,f⟩:Pth))),A4n,A4q,P0,O4,K0,S7,sl A2 x.2.1 x.1]) (([]:List Act),none,0,(-1)) (by exact ⟨hR,olv,olv,(by exact (B3q a1).1)⟩) (mk [true,true,true,true] rfl) fo_ ?_ ?_ (fun _ _ _ _ h=>h.elim)
 ·rintro el rest ⟨g,d,c,b⟩ y z ai ae hI Y Y' K' af hK
  try dsimp only at hI
  obtain ⟨hR,j,k,v⟩:=hI
  replace hR:=(I8.eq_2 ..).symm.trans hR
  refine A1 1 rfl (pp1 1 13 rfl (A3 (hK _ _ _ ?_)))
  refine B4 (sR_ rfl (pp1 1 32 rfl ?_))
  have hQ:=D0 hR;clear hR;obtain ⟨q,a6,hR⟩:=hQ
  refine zc rfl (C8c a6 om_ om_ (by first|exact D5s v|exact B7q hbm|exact B7q (D5v hwq.1 _)|exact fun x i=>by rw [(hpen x i).2];exact Nat.zero_le _|exact fun x i=>hnt x i|assumption|decide|exact fun x i=>Nat.le_trans (hrow x i) ozw|exact fun x i=>Nat.le_trans (of_decide_eq_true (List.all_eq_true.1 hbt x i)) ozw|(intro x i;simp only [List.nil_append,List.mem_append] at i;rcases i with i|i<;>first|exact Nat.le_trans (hrow x i) ozw|exact Nat.le_trans (hpt x i) ozw)|(intro x i;rw [List.mem_singleton.1 i];omega)|exact fun x i=>Nat.le_trans (hrow x (List.mem_of_mem_take i)) ozw|exact fun x i=>Nat.le_trans (hrow x (List.mem_of_mem_drop i)) ozw|exact fun x i=>Nat.le_trans (hrow x (List.mem_of_mem_drop (List.mem_of_mem_take i))) ozw|omega)) fun ⟨s,w⟩=>?_
  have:=VOk.le w
  have:=VOk.cap w
  try have:=C6j el (fun x i=>Nat.le_trans (hrow x (by first|exact i|exact List.mem_of_mem_take i|exact List.mem_of_mem_drop i)) ozw);try rw [a6] at this
  refine pp2 5 14 15 rfl (ie (A5 (sR_ rfl (pp1 3 38 rfl ?_))))
  refine zio 13 0 38 51 ((decide ((0:Int)≤b))&&(decide (b≤(q.1.length:Int)))) (fun a2=>?_) ?_
  ·have ac:=bq_ a2
   refine pl1 5 [0] 43 rfl ?_
   refine zid 7 1 43 50 (decide (b≤(q.1.length:Int))) (fun aa ab=>?_) ?_
   ·refine zrl 7 0 [0] [(50,bv (decide (b≤(q.1.length:Int))))] ?_
    exact A3 (P7 2 43 50 aa B0.refl (mc [[bx o [.slice d g.length c,iv b] 63],[bx p (H5 (⟨a,f⟩:Pth)) 58],[bx n (X5 f) 25],[bx m (B8 a) 23],vo cU8 5 s q.1] [true,true,true,true,true] rfl oxs) rfl rfl rfl rfl rfl)
   refine ip' 1 0 [(51,bv ((decide ((0:Int)≤b))&&(decide (b≤(q.1.length:Int)))))] ?_
   exact A3 (P7 4 38 51 a2 B0.refl (mc [[bx o [.slice d g.length c,iv b] 63],[bx p (H5 (⟨a,f⟩:Pth)) 58],[bx n (X5 f) 25],[bx m (B8 a) 23],vo cU8 5 s q.1] [true,true,true,true,true] rfl oxs) rfl rfl rfl rfl rfl)
  refine ie ?_
  refine zjb rfl hR ?_ ?_<;>clear hR<;>intro hR a0
  ·have a5:=bq_ a0
   refine H3 ?_
   refine A9e (I:=fun l x=>I8 l x.1 x.2.2.2=R∧x.1.length≤x.2.2.1∧x.1.length≤9223372036854775807∧(∀ e ∈ l,B2l e)) (Jx:=fun _ _=>False) (Lk:=fun x=>[bx o [.slice x.2.1 x.1.length x.2.2.1,iv x.2.2.2] 63,bx p (H5 (⟨a,f⟩:Pth)) 58,bx n (X5 f) 25,bx m (B8 a) 23]) (Φk:=fun x=>[at_ b6 (H5 (B2 (⟨a,f⟩:Pth))),A4n,A4q,P0,O4,K0,S7,sl A2 x.2.1 x.1]) (rest:=rest) (g,d,c,b) (by exact ⟨hR,olv,olv,(by exact fun e he=>v e (List.mem_cons_of_mem _ he))⟩) (mc [[bx o [.slice d g.length c,iv b] 63],[bx p (H5 (⟨a,f⟩:Pth)) 58],[bx n (X5 f) 25],[bx m (B8 a) 23],vo cU8 5 s q.1] [true,true,true,true,false] rfl oxs) ?_
   exact fo_
  have a5:=bq_ a0
  refine A6 (nx (A1 9 rfl (zrg 9 0 [0,0] [] (bx o [.slice y el.length z,iv (q.1.length:Int)] 63::bx p (H5 (⟨a,f⟩:Pth)) 58::bx n (X5 f) 25::bx m (B8 a) 23::((vo cU8 5 s q.1)++([]))) (A3 ?_))))
  refine A9e (I:=fun l x=>I8 l x.1 x.2.2.2=R∧x.1.length≤x.2.2.1∧x.1.length≤9223372036854775807∧(∀ e ∈ l,B2l e)) (Jx:=fun _ _=>False) (Lk:=fun x=>[bx o [.slice x.2.1 x.1.length x.2.2.1,iv x.2.2.2] 63,bx p (H5 (⟨a,f⟩:Pth)) 58,bx n (X5 f) 25,bx m (B8 a) 23]) (Φk:=fun x=>[at_ b6 (H5 (B2 (⟨a,f⟩:Pth))),A4n,A4q,P0,O4,K0,S7,sl A2 x.2.1 x.1]) (rest:=rest) (el,y,z,(q.1.length:Int)) (by exact ⟨hR,olv,olv,(by exact fun e he=>v e (List.mem_cons_of_mem _ he))⟩) (mc [[bx o [.slice y el.length z,iv (q.1.length:Int)] 63],[bx p (H5 (⟨a,f⟩:Pth)) 58],[bx n (X5 f) 25],[bx m (B8 a) 23],vo cU8 5 s q.1] [true,true,true,true,false] rfl oxs) ?_
  exact fo_
 ·rintro ah ⟨g,d,c,b⟩ a3 hI
  try dsimp only at hI
  obtain ⟨hR,j,k,v⟩:=hI
  replace hR:=(I8.eq_1 ..).symm.trans hR
  refine nx (sR_ rfl (pl2 5 [0] 8 9 rfl ?_))
  subst hR
  refine ie (A8 ?_)
  exact B5b rfl ⟨hr,hD⟩ (by exact (V4.cons (show V4 X.D by rw [hD];exact V4.nil) a3)) (U6 rfl (B9 rfl) (B9 rfl)) (zq d c) odv (mk [false,false,false,false] rfl) fo_
end Go.Proofs.YtioaekgoceinkaaGreatDoor
