import Derived.Test.YtfcdnnheppnbaaaGreatDoorProg
import Derived.Test.YtfcdnnheppnbaaaGreatDoorMA2
import Derived.Test.YtfcdnnheppnbaaaGreatDoorMB1
import Derived.Test.YtfcdnnheppnbaaaGreatDoorMA3
import Derived.Test.YtfcdnnheppnbaaaGreatDoorMB2
import Derived.Test.YtfcdnnheppnbaaaGreatDoorMB3
set_option linter.unusedVariables false
set_option linter.unusedSimpArgs false
set_option linter.unnecessarySimpa false
set_option maxRecDepth 100000
namespace Go.Proofs.YtfcdnnheppnbaaaGreatDoor
open Go Go.Fen
theorem C9d:ApTy Tryz.prog 22 37 12 96:=⟨by kernel_rfl,by kernel_rfl,rfl⟩
theorem F3p:ApTy Tryz.prog 46 4 1 1:=⟨by kernel_rfl,by kernel_rfl,rfl⟩
theorem W9:SlTy Tryz.prog 22 37 12:=⟨by kernel_rfl,by kernel_rfl⟩
theorem F4o:SlTy Tryz.prog 46 4 1:=⟨by kernel_rfl,by kernel_rfl⟩
theorem A3w:Ty Tryz.prog 34 2 true:=⟨by kernel_rfl⟩
theorem C0t:Ty Tryz.prog 37 12 true:=⟨by kernel_rfl⟩
theorem F5s:Ty Tryz.prog 45 13 true:=⟨by kernel_rfl⟩
theorem F4y:Zero Tryz.prog 4 [bv false]:=⟨by kernel_rfl⟩
theorem D4o:Zero Tryz.prog 37 (C0 Cel.zero):=⟨by kernel_rfl⟩
structure Cur where
 row:Int
 col:Int
 wrap:Bool
deriving DecidableEq
def V7 (x:Cur):List Value:=[.int .i64 x.row,.int .i64 x.col,.bool x.wrap]
def Cur.zero:Cur:=⟨0,0,false⟩
theorem V7.inj (x y:Cur) (h:V7 x=V7 y):x=y:=by
 rcases x with ⟨_,_,_⟩
 rcases y with ⟨_,_,_⟩
 simp [V7,bs] at h
 simp_all
structure Pth where
 frm:Cur
 to_:Plc
deriving DecidableEq
def E8p (x:Pth):List Value:=V7 x.frm++(I8 x.to_)
def Pth.zero:Pth:=⟨Cur.zero,Plc.zero⟩
theorem E8p.inj (x y:Pth) (h:E8p x=E8p y):x=y:=by
 rcases x with ⟨⟨_,_,_⟩,⟨_,_⟩⟩
 rcases y with ⟨⟨_,_,_⟩,⟨_,_⟩⟩
 simp [V7,I8,E8p,bs] at h
 simp_all
structure Ar4 where
 a:Int
 b:Int
 c:Int
 d:Int
deriving DecidableEq
def D2c (x:Ar4):List Value:=[.int .i64 x.a,.int .i64 x.b,.int .i64 x.c,.int .i64 x.d]
def Ar4.zero:Ar4:=⟨0,0,0,0⟩
theorem D2c.inj (x y:Ar4) (h:D2c x=D2c y):x=y:=by
 rcases x with ⟨_,_,_,_⟩
 rcases y with ⟨_,_,_,_⟩
 simp [D2c,bs] at h
 simp_all
structure Sts where
 g:Ar4
 used:Int
 once:Int
deriving DecidableEq
def A3i (x:Sts):List Value:=D2c x.g++([.int .i64 x.used,.int .i64 x.once])
def Sts.zero:Sts:=⟨Ar4.zero,0,0⟩
theorem A3i.inj (x y:Sts) (h:A3i x=A3i y):x=y:=by
 rcases x with ⟨⟨_,_,_,_⟩,_,_⟩
 rcases y with ⟨⟨_,_,_,_⟩,_,_⟩
 simp [D2c,A3i,bs] at h
 simp_all
structure Mod where
 insert:Bool
 newline:Bool
 cursorKeys:Bool
 inverse:Bool
 origin:Bool
 auto:Bool
 visible:Bool
 paste:Bool
 focus:Bool
 sync:Bool
 keypad:Bool
 mouse:Int
 mouseSgr:Bool
deriving DecidableEq
def C1b (x:Mod):List Value:=[.bool x.insert,.bool x.newline,.bool x.cursorKeys,.bool x.inverse,.bool x.origin,.bool x.auto,.bool x.visible,.bool x.paste,.bool x.focus,.bool x.sync,.bool x.keypad,.int .i64 x.mouse,.bool x.mouseSgr]
def Mod.zero:Mod:=⟨false,false,false,false,false,false,false,false,false,false,false,0,false⟩
theorem C1b.inj (x y:Mod) (h:C1b x=C1b y):x=y:=by
 rcases x with ⟨_,_,_,_,_,_,_,_,_,_,_,_,_⟩
 rcases y with ⟨_,_,_,_,_,_,_,_,_,_,_,_,_⟩
 simp [C1b,bs] at h
 simp_all
structure Sav where
 is_:Bool
 cursor:Cur
 style:Sty
 sets:Sts
 origin:Bool
deriving DecidableEq
def B5l (x:Sav):List Value:=[.bool x.is_]++(V7 x.cursor++(B3 x.style++(A3i x.sets++([.bool x.origin]))))
def Sav.zero:Sav:=⟨false,Cur.zero,Sty.zero,Sts.zero,false⟩
theorem B5l.inj (x y:Sav) (h:B5l x=B5l y):x=y:=by
 rcases x with ⟨_,⟨_,_,_⟩,⟨_,_,⟨_,_⟩,⟨_,_⟩,⟨_,_⟩⟩,⟨⟨_,_,_,_⟩,_,_⟩,_⟩
 rcases y with ⟨_,⟨_,_,_⟩,⟨_,_,⟨_,_⟩,⟨_,_⟩,⟨_,_⟩⟩,⟨⟨_,_,_,_⟩,_,_⟩,_⟩
 simp [D2c,P0,V7,B5l,A3i,B3,bs] at h
 simp_all
structure Pln where
 cols:Int
 rows:Int
 top:Int
 bottom:Int
 shape:Int
 last:Int
 onAlt:Bool
 cursor:Cur
 style:Sty
 sets:Sts
 modes:Mod
 kept:Sav
 keptAlt:Sav
 title:List UInt8
deriving DecidableEq
def E9k (x:Pln):List Value:=[.int .i64 x.cols,.int .i64 x.rows,.int .i64 x.top,.int .i64 x.bottom,.int .i64 x.shape,.int .i64 x.last,.bool x.onAlt]++(V7 x.cursor++(B3 x.style++(A3i x.sets++(C1b x.modes++(B5l x.kept++(B5l x.keptAlt++([.string (bs x.title)])))))))
def Pln.zero:Pln:=⟨0,0,0,0,0,0,false,Cur.zero,Sty.zero,Sts.zero,Mod.zero,Sav.zero,Sav.zero,[]⟩
theorem E9k.inj (x y:Pln) (h:E9k x=E9k y):x=y:=by
 rcases x with ⟨_,_,_,_,_,_,_,⟨_,_,_⟩,⟨_,_,⟨_,_⟩,⟨_,_⟩,⟨_,_⟩⟩,⟨⟨_,_,_,_⟩,_,_⟩,⟨_,_,_,_,_,_,_,_,_,_,_,_,_⟩,⟨_,⟨_,_,_⟩,⟨_,_,⟨_,_⟩,⟨_,_⟩,⟨_,_⟩⟩,⟨⟨_,_,_,_⟩,_,_⟩,_⟩,⟨_,⟨_,_,_⟩,⟨_,_,⟨_,_⟩,⟨_,_⟩,⟨_,_⟩⟩,⟨⟨_,_,_,_⟩,_,_⟩,_⟩,_⟩
 rcases y with ⟨_,_,_,_,_,_,_,⟨_,_,_⟩,⟨_,_,⟨_,_⟩,⟨_,_⟩,⟨_,_⟩⟩,⟨⟨_,_,_,_⟩,_,_⟩,⟨_,_,_,_,_,_,_,_,_,_,_,_,_⟩,⟨_,⟨_,_,_⟩,⟨_,_,⟨_,_⟩,⟨_,_⟩,⟨_,_⟩⟩,⟨⟨_,_,_,_⟩,_,_⟩,_⟩,⟨_,⟨_,_,_⟩,⟨_,_,⟨_,_⟩,⟨_,_⟩,⟨_,_⟩⟩,⟨⟨_,_,_,_⟩,_,_⟩,_⟩,_⟩
 simp [D2c,P0,V7,C1b,E9k,B5l,A3i,B3,bs] at h
 simp_all
structure ScrC where
 cols:Int
 rows:Int
 onAlt:Bool
 cursor:Cur
 style:Sty
 sets:Sts
 modes:Mod
 top:Int
 bottom:Int
 kept:Sav
 keptAlt:Sav
 shape:Int
 title:List UInt8
 last:Int
deriving DecidableEq
def E1s (x:ScrC):List Value:=[.int .i64 x.cols,.int .i64 x.rows,.bool x.onAlt]++(V7 x.cursor++(B3 x.style++(A3i x.sets++(C1b x.modes++([.int .i64 x.top,.int .i64 x.bottom]++(B5l x.kept++(B5l x.keptAlt++([.int .i64 x.shape,.string (bs x.title),.int .i64 x.last]))))))))
def ScrC.zero:ScrC:=⟨0,0,false,Cur.zero,Sty.zero,Sts.zero,Mod.zero,0,0,Sav.zero,Sav.zero,0,[],0⟩
theorem E1s.inj (x y:ScrC) (h:E1s x=E1s y):x=y:=by
 rcases x with ⟨_,_,_,⟨_,_,_⟩,⟨_,_,⟨_,_⟩,⟨_,_⟩,⟨_,_⟩⟩,⟨⟨_,_,_,_⟩,_,_⟩,⟨_,_,_,_,_,_,_,_,_,_,_,_,_⟩,_,_,⟨_,⟨_,_,_⟩,⟨_,_,⟨_,_⟩,⟨_,_⟩,⟨_,_⟩⟩,⟨⟨_,_,_,_⟩,_,_⟩,_⟩,⟨_,⟨_,_,_⟩,⟨_,_,⟨_,_⟩,⟨_,_⟩,⟨_,_⟩⟩,⟨⟨_,_,_,_⟩,_,_⟩,_⟩,_,_,_⟩
 rcases y with ⟨_,_,_,⟨_,_,_⟩,⟨_,_,⟨_,_⟩,⟨_,_⟩,⟨_,_⟩⟩,⟨⟨_,_,_,_⟩,_,_⟩,⟨_,_,_,_,_,_,_,_,_,_,_,_,_⟩,_,_,⟨_,⟨_,_,_⟩,⟨_,_,⟨_,_⟩,⟨_,_⟩,⟨_,_⟩⟩,⟨⟨_,_,_,_⟩,_,_⟩,_⟩,⟨_,⟨_,_,_⟩,⟨_,_,⟨_,_⟩,⟨_,_⟩,⟨_,_⟩⟩,⟨⟨_,_,_,_⟩,_,_⟩,_⟩,_,_,_⟩
 simp [D2c,P0,V7,C1b,B5l,E1s,A3i,B3,bs] at h
 simp_all
def C8 (x:ScrC) (a d b c:Slc):List Value:=[.int .i64 x.cols,.int .i64 x.rows,.slice a.q a.n a.k,.slice d.q d.n d.k,.bool x.onAlt,.slice b.q b.n b.k]++(V7 x.cursor++(B3 x.style++(A3i x.sets++(C1b x.modes++([.int .i64 x.top,.int .i64 x.bottom,.slice c.q c.n c.k]++(B5l x.kept++(B5l x.keptAlt++([.int .i64 x.shape,.string (bs x.title),.int .i64 x.last]))))))))
structure FrmC where
 cols:Int
 cursor:Plc
 visible:Bool
 shape:Int
 title:List UInt8
deriving DecidableEq
def E1y (x:FrmC):List Value:=[.int .i64 x.cols]++(I8 x.cursor++([.bool x.visible,.int .i64 x.shape,.string (bs x.title)]))
def FrmC.zero:FrmC:=⟨0,Plc.zero,false,0,[]⟩
theorem E1y.inj (x y:FrmC) (h:E1y x=E1y y):x=y:=by
 rcases x with ⟨_,⟨_,_⟩,_,_,_⟩
 rcases y with ⟨_,⟨_,_⟩,_,_,_⟩
 simp [E1y,I8,bs] at h
 simp_all
def A6s:Mod :=
 {Mod.zero with auto:=true,visible:=true}
theorem E0f {R:Mod} (hR:A6s=R):J5 Tryz.prog 19 [] [] (ag (C1b R)):=by
 refine bZ Tryz.func19 fun X hX hr hD=>?_
 replace hR:=(A6s.eq_1 ..).symm.trans hR
 refine bN rfl (zra 1 [] (fun a=>[(0,pt a 0)]) (fun _=>(C1b Mod.zero)) 45 fun a=>(ie (bN rfl (zru 2 [0] [] 0 (bx a (C1b ({Mod.zero with auto:=true,visible:=true})) 45) ?_))))
 subst hR
 refine ie (A8 ?_)
 exact cD hr hD (N4 rfl (D4 (us:=C1b ({Mod.zero with auto:=true,visible:=true})) F5s rfl 0 rfl rfl rfl)) () bQ bT
def A2b (a:Int):Nat→List Bool→Nat→(List Bool×Int)
 | 0,_,_=>([],0)
 | fu1+1,t,k=>(bif (decide ((k:Int)<a)) then A2b a fu1 (t.set k true) (k+8) else (t,0))
def Z5 (a:Int):List Bool×Int :=
 (bif ((decide (a<2))||(decide ((80:Int)<a))) then (([]:List Bool),2) else A2b a ((a - (8:Int)).toNat+1) (List.replicate ((a).toNat) false) 8)
theorem D9z {a:Int} {R:List Bool×Int} (hR:Z5 a=R):cI Tryz.prog 18 [iv a] [] [] ({r:VR // bR 1 R.1.length r}) (fun x=>.tuple #[.slice (va x.1.q) R.1.length x.1.k,iv R.2]) (fun x=>((vo R7 4 x.1 R.1)++([]))) (fun x=>[]):=by
 refine bZ Tryz.func18 fun X hX hr hD=>?_
 replace hR:=(Z5.eq_1 ..).symm.trans hR
 refine bN rfl (pp0 2 rfl (ie (A5 (bN rfl (bO 3 8 rfl ?_)))))
 refine zir 3 0 8 11 (decide ((80:Int)<a)) (fun y p=>?_) ?_
 ·refine bO 3 11 rfl ?_
  exact A3 (O6 2 8 11 y bT bQ rfl rfl rfl rfl rfl)
 refine ie ?_
 refine zjo rfl hR ?_ ?_<;>clear hR<;>intro hR h2 o
 ·refine bN rfl (cJ 2 2 3 rfl ?_)
  subst hR
  refine ie (A8 ?_)
  exact cD hr hD (Q9 rfl (B0 rfl) (B0 rfl)) ⟨VR.nil,bR.nil⟩ bQ bT
 refine A4 (nx (bN rfl (bO 1 12 rfl (it rfl (B5u (f:=R7) (l:=(a).toNat) (c:=(a).toNat) false F3p F4y.ok (fun _=>rfl) rfl (by exact congrArg (fun z=>some (Value.int .i64 z)) (show a=(((a).toNat:Nat):Int) by omega)) (by exact congrArg (fun z=>some (Value.int .i64 z)) (show a=(((a).toNat:Nat):Int) by omega)) opx ofv opx) fun ⟨s,d⟩=>?_))))
 have:(List.replicate ((a).toNat) false).length=((a).toNat):=List.length_replicate
 have:=bR.le d
 have:=bR.cap d
 have:(List.replicate ((a).toNat) false).length=((a).toNat):=List.length_replicate
 refine bO 1 4 rfl (ie (A5 (bN rfl (bO 1 5 rfl (ie (B2 ?_))))))
 refine A4v (un fun (g:Nat)=>un fun (t:List Bool)=>un fun (e:VR) (k:Nat)=>((a - (k:Int)).toNat<g∧A2b a g t k=R∧bR 1 t.length e∧t.length=a.toNat,[(0,iv a),(4,.slice (va e.q) t.length e.k),(5,iv (k:Int))],((vo R7 4 e t)++([])),[],g)) (((a - (8:Int)).toNat+1),List.replicate ((a).toNat) false,s,8) ⟨(Nat.lt_succ_self _),hR,d,(by exact List.length_replicate)⟩ bQ bT ?_
 rintro ⟨g,t,e,k⟩ ⟨w,hR,b,v⟩
 have:=bR.le b
 obtain ⟨fu1,rfl⟩:∃ m,g=m+1:=⟨g - 1,by omega⟩
 replace hR:=(A2b.eq_2 ..).symm.trans hR
 refine A5 (bN rfl (bO 3 16 rfl ?_))
 refine ie ?_
 refine zjd rfl hR ?_ ?_<;>clear hR<;>intro hR h6 n
 ·refine A4 (nx (A5 (B2 (A0 4 rfl (cJ 2 19 20 rfl ?_)))))
  obtain ⟨b7,j⟩:=bR.some b opx
  obtain ⟨u,i,h⟩:=e
  obtain rfl:u=some b7:=j
  refine ix rfl (X2 F4o rfl rfl rfl k rfl opx) (it rfl (W7 (us:=[bv true]) (u':=true) (c:=R7) (sz:=1) ty4 (fun _=>rfl) rfl rfl rfl 0 rfl rfl rfl rfl k 0 rfl (gd false opx) rfl rfl) fun _=>?_)
  refine A3 (nx (A0 3 rfl (bO 1 17 rfl (ix rfl (B4 rfl rfl rfl rfl opx) (bO 1 5 rfl (A3 ?_))))))
  exact A0d (z1:=(fu1+1,t,(⟨some b7,i,h⟩:VR),k)) (fu1,t.set k true,(⟨some b7,i,h⟩:VR),k+8) ⟨opx,hR,(bR.cast b oom),(by (rw [List.length_set];exact v))⟩ (Nat.lt_succ_self _) bQ bT
 refine G6 (nx (bN rfl (cJ 3 2 3 rfl ?_)))
 subst hR
 refine ie (A8 ?_)
 exact cD hr hD (Q9 rfl (B0 rfl) (B0 rfl)) ⟨e,b⟩ bQ bT
def G8 (s:Sty):Cel :=
 {Cel.zero with base:=32,sty:=s}
theorem B4e {s:Sty} {R:Cel} (hR:G8 s=R):J5 Tryz.prog 161 [ag (B3 s)] [] (ag (C0 R)):=by
 refine bZ Tryz.func161 fun X hX hr hD=>?_
 replace hR:=(G8.eq_1 ..).symm.trans hR
 refine bN rfl (A8c 2 [] (fun a b=>[(1,pt a 0),(2,pt b 0)]) (fun _ _=>(B3 s)) (fun _ _=>(C0 Cel.zero)) 26 37 fun a b=>(ie (bN rfl (zrg 3 0 [1,0] [] [bx b (C0 ({Cel.zero with base:=32,sty:=s})) 37,bx a (B3 s) 26] ?_))))
 subst hR
 refine ie (A8 ?_)
 exact cD hr hD (N4 rfl (D4 (us:=C0 ({Cel.zero with base:=32,sty:=s})) C0t rfl 0 rfl rfl rfl)) () bQ bT
def B1d (x:Int) (y:Int):Int×Int :=
 ((IntKind.u64.wrap ((IntKind.u64.wrap ((IntKind.u64.wrap ((x / 4294967296) * (y / 4294967296)))+((IntKind.u64.wrap ((IntKind.u64.wrap ((x / 4294967296) * (bW .and .u64 y 4294967295)))+((IntKind.u64.wrap ((bW .and .u64 x 4294967295) * (bW .and .u64 y 4294967295))) / 4294967296))) / 4294967296)))+((IntKind.u64.wrap ((bW .and .u64 (IntKind.u64.wrap ((IntKind.u64.wrap ((x / 4294967296) * (bW .and .u64 y 4294967295)))+((IntKind.u64.wrap ((bW .and .u64 x 4294967295) * (bW .and .u64 y 4294967295))) / 4294967296))) 4294967295)+(IntKind.u64.wrap ((bW .and .u64 x 4294967295) * (y / 4294967296))))) / 4294967296))),(IntKind.u64.wrap (x * y)))
theorem C3k {x y:Int} {R:Int×Int} (hR:B1d x y=R):J5 Tryz.prog 279 [.int .u64 x,.int .u64 y] [] (.tuple #[.int .u64 R.1,.int .u64 R.2]):=by
 refine bZ Tryz.func279 fun X hX hr hD=>?_
 replace hR:=(B1d.eq_1 ..).symm.trans hR
 refine bN rfl (pp0 2 rfl (ie (bN rfl (bO 3 6 rfl (ie (bN rfl (bO 1 16 rfl ?_)))))))
 refine ix rfl (U3 (c:=x / 4294967296) rfl rfl rfl ozw (by simp [Int.fdiv_eq_ediv_of_nonneg,IntKind.bits])) (bO 1 7 rfl (ie (bN rfl (bO 3 8 rfl (ie (bN rfl (bO 1 20 rfl ?_)))))))
 refine ix rfl (U3 (c:=y / 4294967296) rfl rfl rfl ozw (by simp [Int.fdiv_eq_ediv_of_nonneg,IntKind.bits])) (bO 1 9 rfl (ie (bN rfl (bO 4 10 rfl (ie (bN rfl (cJ 4 27 28 rfl ?_)))))))
 refine ix rfl (U3 (c:=(IntKind.u64.wrap ((bW .and .u64 x 4294967295) * (bW .and .u64 y 4294967295))) / 4294967296) rfl rfl rfl ozw (by simp [Int.fdiv_eq_ediv_of_nonneg,IntKind.bits])) (bO 2 11 rfl (ie (bN rfl (bO 3 12 rfl (ie (bN rfl (bO 1 33 rfl ?_)))))))
 refine ix rfl (U3 (c:=(IntKind.u64.wrap ((IntKind.u64.wrap ((x / 4294967296) * (bW .and .u64 y 4294967295)))+((IntKind.u64.wrap ((bW .and .u64 x 4294967295) * (bW .and .u64 y 4294967295))) / 4294967296))) / 4294967296) rfl rfl rfl ozw (by simp [Int.fdiv_eq_ediv_of_nonneg,IntKind.bits])) (bO 1 13 rfl (ie (bN rfl (bO 6 12 rfl (ie (bN rfl (cJ 6 44 45 rfl ?_)))))))
 refine ix rfl (U3 (c:=(IntKind.u64.wrap ((bW .and .u64 (IntKind.u64.wrap ((IntKind.u64.wrap ((x / 4294967296) * (bW .and .u64 y 4294967295)))+((IntKind.u64.wrap ((bW .and .u64 x 4294967295) * (bW .and .u64 y 4294967295))) / 4294967296))) 4294967295)+(IntKind.u64.wrap ((bW .and .u64 x 4294967295) * (y / 4294967296))))) / 4294967296) rfl rfl rfl ozw (by simp [Int.fdiv_eq_ediv_of_nonneg,IntKind.bits])) (bO 2 4 rfl (ie (bN rfl (bO 4 5 rfl ?_))))
 subst hR
 refine ie (A8 ?_)
 exact B1g hr hD
def A6x (x:Int) (y:Int):Int×Int :=
 (C2 (B1d x y) fun (a:Int×Int)=>(a.1,a.2))
theorem wr6 {x:Int} (h:-1000000≤x∧x≤1000000):IntKind.i64.wrap x=x:=A0j (by show (-9223372036854775808:Int)≤_;omega) (by show _≤(9223372036854775807:Int);omega)
theorem E7t:∀ c<81,A6x 1 ((c:Nat):Int)=(0,((c:Nat):Int)):=by decide +kernel
theorem E2k (n:Nat) (c:Int) (a:n=1) (b:1≤c∧c≤80):A6x (IntKind.u64.wrap (n:Int)) (IntKind.u64.wrap c)=(0,c):=by
 obtain ⟨m,rfl⟩:∃ m:Nat,c=m:=⟨c.toNat,by omega⟩
 subst a
 rw [A0j (k:=.u64) (by show (0:Int)≤_;omega) (by show _≤(18446744073709551615:Int);omega),A0j (k:=.u64) (by show (0:Int)≤_;omega) (by show _≤(18446744073709551615:Int);omega)]
 exact E7t m opx
theorem C7n {x y:Int} {R:Int×Int} (hR:A6x x y=R):J5 Tryz.prog 233 [.int .u64 x,.int .u64 y] [] (.tuple #[.int .u64 R.1,.int .u64 R.2]):=by
 refine bZ Tryz.func233 fun X hX hr hD=>?_
 replace hR:=(A6x.eq_1 ..).symm.trans hR
 refine bN rfl (pp0 2 rfl (ie (A5 (Z1 rfl (A4 (nx (bN rfl (cJ 2 23 24 rfl ?_))))))))
 have b:=C9 hR;clear hR;obtain ⟨c,a,hR⟩:=b
 refine zv rfl (C3k a) (cJ 5 8 9 rfl (ie (bN rfl (cJ 4 4 5 rfl ?_))))
 subst hR
 refine ie (A8 ?_)
 exact B1g hr hD
def J3:Nat→List Cel→Nat→List Cel
 | 0,_,_=>[]
 | fu1+1,newslice,n=>(bif (decide ((n:Int)<(newslice.length:Int))) then J3 fu1 (newslice.take n++(newslice.take (min n (newslice.length - n):Nat)++newslice.drop (n+(min n (newslice.length - n):Nat)))) (n+(min n (newslice.length - n):Nat)) else newslice)
def P3 (x:List Cel) (count:Int):List Cel :=
 (C2 (A6x (IntKind.u64.wrap (x.length:Int)) (IntKind.u64.wrap count)) fun (a:Int×Int)=>J3 (((x.take (List.replicate ((IntKind.i64.wrap a.2).toNat) Cel.zero).length++(List.replicate ((IntKind.i64.wrap a.2).toNat) Cel.zero).drop x.length).length - (min x.length (List.replicate ((IntKind.i64.wrap a.2).toNat) Cel.zero).length:Nat))+1) (x.take (List.replicate ((IntKind.i64.wrap a.2).toNat) Cel.zero).length++(List.replicate ((IntKind.i64.wrap a.2).toNat) Cel.zero).drop x.length) (min x.length (List.replicate ((IntKind.i64.wrap a.2).toNat) Cel.zero).length:Nat))
theorem ort {p:Prop} (h:p:=by (constructor<;>first|omega|(simp only [List.length_append,List.length_take,List.length_drop,List.length_replicate]<;>omega))):p:=h
theorem A7v {x:List Cel} {count:Int} {xq:Option Addr} {xk:Nat} {R:List Cel} (hR:P3 x count=R) (a6:x.length≤9223372036854775807:=by exact bP) (a2:x.length≤xk:=by exact bP) (u:1≤count∧count≤80:=by exact bP) (s:x.length=1:=by exact bP):cI Tryz.prog 160 [.slice xq x.length xk,iv count] [] [sl C0 xq x] ({r:VR // bR 12 R.length r}) (fun x=>.slice (va x.1.q) R.length x.1.k) (fun x=>((vo C0 37 x.1 R)++([]))) (fun x=>[]):=by
 refine bZ Tryz.func160 fun X hX hr hD=>?_
 replace hR:=(P3.eq_1 ..).symm.trans hR
 refine bN rfl (pp0 1 rfl (ie (A5 (bN rfl (bO 2 10 rfl ?_)))))
 refine ie (X7 rfl (fun w=>?_) (fun w=>?_))
 ·have t:=bU w
  exfalso;omega
 have t:=bU w
 refine A4 (nx (bN rfl (cJ 5 15 17 rfl ?_)))
 have hQ:=C9 hR;clear hR;obtain ⟨d,o,hR⟩:=hQ
 refine zv rfl (C7n o) ?_
 have:=E2k x.length count s u;try rw [o] at this
 have a5:d.1=0:=by rw [this]
 have y:IntKind.i64.wrap d.2=count:=by rw [this];exact wr6 (by show -1000000≤count∧count≤1000000;omega)
 have a1:d.2=count:=by rw [this]
 refine cJ 5 5 6 rfl (ie (A5 (bN rfl (bO 3 23 rfl ?_))))
 refine zir 3 0 23 26 (decide ((9223372036854775807:Int)<d.2)) (fun g2 a8=>?_) ?_
 ·refine bO 3 26 rfl ?_
  exact zai 2 23 26 g2
 refine ie (X7 rfl (fun p=>?_) (fun p=>?_))
 ·have v:=bU p
  exfalso;simp only [Bool.or_eq_true,decide_eq_true_eq] at p;omega
 have v:=bU p
 refine A4 (nx (bN rfl (bO 2 29 rfl (it rfl (B5u (f:=C0) (l:=(IntKind.i64.wrap d.2).toNat) (c:=(IntKind.i64.wrap d.2).toNat) Cel.zero C9d D4o.ok (fun _=>rfl) rfl (by exact congrArg (fun z=>some (Value.int .i64 z)) (show (IntKind.i64.wrap d.2)=(((IntKind.i64.wrap d.2).toNat:Nat):Int) by omega)) (by exact congrArg (fun z=>some (Value.int .i64 z)) (show (IntKind.i64.wrap d.2)=(((IntKind.i64.wrap d.2).toNat:Nat):Int) by omega)) opx ofv opx) fun ⟨r4,e⟩=>?_))))
 have:(List.replicate ((IntKind.i64.wrap d.2).toNat) Cel.zero).length=((IntKind.i64.wrap d.2).toNat):=List.length_replicate
 have:=bR.le e
 have:=bR.cap e
 have:(List.replicate ((IntKind.i64.wrap d.2).toNat) Cel.zero).length=((IntKind.i64.wrap d.2).toNat):=List.length_replicate
 refine bO 1 7 rfl (ie (bN rfl (cJ 2 31 32 rfl ?_)))
 have j:bR 12 (x.take (List.replicate ((IntKind.i64.wrap d.2).toNat) Cel.zero).length++(List.replicate ((IntKind.i64.wrap d.2).toNat) Cel.zero).drop x.length).length r4:=by rw [show (x.take (List.replicate ((IntKind.i64.wrap d.2).toNat) Cel.zero).length++(List.replicate ((IntKind.i64.wrap d.2).toNat) Cel.zero).drop x.length).length=(List.replicate ((IntKind.i64.wrap d.2).toNat) Cel.zero).length by simp only [List.length_append,List.length_take,List.length_drop];omega];exact e
 refine it rfl (D2w (f:=C0) (r:=r4) (xs:=(List.replicate ((IntKind.i64.wrap d.2).toNat) Cel.zero)) (ys:=x) (pre:=[]) (post:=[]) W9 (fun _=>rfl) (fun _=>rfl) rfl rfl rfl rfl rfl rfl rfl rfl (B8 0 rfl) e) fun _=>?_
 refine bO 1 8 rfl (ie (A5 (B2 ?_)))
 refine A4v (un fun (g:Nat)=>un fun (a:List Cel)=>un fun (newslicer:VR) (n:Nat)=>((a.length - n)<g∧J3 g a n=R∧bR 12 a.length newslicer∧(a.length=count.toNat∧1≤n),[(7,.slice (va newslicer.q) a.length newslicer.k),(8,iv (n:Int))],((vo C0 37 newslicer a)++([])),[sl C0 xq x],g)) ((((x.take (List.replicate ((IntKind.i64.wrap d.2).toNat) Cel.zero).length++(List.replicate ((IntKind.i64.wrap d.2).toNat) Cel.zero).drop x.length).length - (min x.length (List.replicate ((IntKind.i64.wrap d.2).toNat) Cel.zero).length:Nat))+1),x.take (List.replicate ((IntKind.i64.wrap d.2).toNat) Cel.zero).length++(List.replicate ((IntKind.i64.wrap d.2).toNat) Cel.zero).drop x.length,r4,(min x.length (List.replicate ((IntKind.i64.wrap d.2).toNat) Cel.zero).length:Nat)) ⟨(Nat.lt_succ_self _),hR,j,ort⟩ bQ A9.refl (hE:=⟨(show some (Value.slice (va r4.q) ((List.replicate ((IntKind.i64.wrap d.2).toNat) Cel.zero).length) r4.k)=some (Value.slice (va r4.q) ((x.take (List.replicate ((IntKind.i64.wrap d.2).toNat) Cel.zero).length++(List.replicate ((IntKind.i64.wrap d.2).toNat) Cel.zero).drop x.length).length) r4.k) from congrArg (fun z=>some (Value.slice (va r4.q) z r4.k)) (show (List.replicate ((IntKind.i64.wrap d.2).toNat) Cel.zero).length=(x.take (List.replicate ((IntKind.i64.wrap d.2).toNat) Cel.zero).length++(List.replicate ((IntKind.i64.wrap d.2).toNat) Cel.zero).drop x.length).length by first|rfl|omega|(simp only [List.length_append,List.length_take,List.length_drop,List.length_replicate,List.length_set];omega))),(by first|rfl|exact congrArg (fun z=>some (Value.slice _ z _)) (by first|omega|(simp only [List.length_append,List.length_take,List.length_drop,List.length_replicate];omega))),trivial⟩) ?_
 rintro ⟨g,a,newslicer,n⟩ ⟨a0,hR,b,hn⟩
 have:=bR.le b
 obtain ⟨fu1,rfl⟩:∃ m,g=m+1:=⟨g - 1,by omega⟩
 replace hR:=(J3.eq_2 ..).symm.trans hR
 refine A5 (bN rfl (bO 4 37 rfl ?_))
 refine ie ?_
 refine zjd rfl hR ?_ ?_<;>clear hR<;>intro hR h8 a3
 ·refine A4 (nx (B2 ?_))
  refine zSn [(7,[0])] ?_
  refine hq5 [0,1,2,4,5] 38 39 40 42 43 rfl ?_
  have:=bR.cap b
  refine gk 3 rfl (A9y (n':=(a.length - n)) W9 rfl rfl n a.length newslicer.k (A0i rfl rfl) A1n A1n opx opx (Nat.le_refl _) rfl rfl) ?_
  have:=bR.cap b
  refine gk 6 rfl (C5c (n':=n) W9 rfl rfl n newslicer.k (A0i rfl rfl) A1n opx (Nat.le_refl _) rfl rfl) ?_
  have i:bR 12 (a.take n++(a.take (min n (a.length - n):Nat)++a.drop (n+(min n (a.length - n):Nat)))).length newslicer:=by rw [show (a.take n++(a.take (min n (a.length - n):Nat)++a.drop (n+(min n (a.length - n):Nat)))).length=a.length by simp only [List.length_append,List.length_take,List.length_drop];omega];exact b
  refine go 7 [] rfl (E3e (f:=C0) (r:=newslicer) (xs:=a) (l:=n) (h:=n) (pre:=[]) (post:=[]) W9 (fun _=>rfl) (fun _=>rfl) rfl rfl rfl rfl rfl rfl rfl b opx opx) fun _=>?_
  refine gk 8 rfl (B4 rfl rfl rfl rfl opx) ?_
  refine hq1 [9] 8 rfl ?_
  refine gdn ?_
  exact A0d (z1:=(fu1+1,a,newslicer,n)) (fu1,(a.take n++(a.take (min n (a.length - n):Nat)++a.drop (n+(min n (a.length - n):Nat)))),newslicer,(n+(min n (a.length - n):Nat))) ⟨(by simp only [List.length_append,List.length_take,List.length_drop,List.length_replicate];omega),hR,i,ort⟩ (Nat.lt_succ_self _) bQ A9.refl (hE:=⟨(show some (Value.slice (va newslicer.q) a.length newslicer.k)=some (Value.slice (va newslicer.q) ((a.take n++(a.take (min n (a.length - n):Nat)++a.drop (n+(min n (a.length - n):Nat)))).length) newslicer.k) from congrArg (fun z=>some (Value.slice (va newslicer.q) z newslicer.k)) (show a.length=(a.take n++(a.take (min n (a.length - n):Nat)++a.drop (n+(min n (a.length - n):Nat)))).length by first|rfl|omega|(simp only [List.length_append,List.length_take,List.length_drop,List.length_replicate,List.length_set];omega))),(show some (iv ((n:Int)+((min n (a.length - n):Nat):Int)))=some (iv ((n+(min n (a.length - n):Nat)):Int)) by first|rfl|exact congrArg (fun z=>some (Value.int .i64 z)) (by first|rfl|omega|(simp only [List.length_append,List.length_take,List.length_drop,List.length_replicate,List.length_set];omega))),trivial⟩)
 refine G6 (nx (bN rfl (bO 2 4 rfl ?_)))
 subst hR
 refine ie (A8 ?_)
 exact cD hr hD (N4 rfl (B0 rfl)) ⟨newslicer,b⟩ bQ bT
def C4z (a:Int) (s:Sty):List Cel×Bool×Int :=
 (bif ((decide (a<2))||(decide ((80:Int)<a))) then (([]:List Cel),false,2) else (bif (!decide ((D5 s)=0)) then (([]:List Cel),false,(D5 s)) else (C2 (P3 ([(G8 s)]:List Cel) a) fun (b:List Cel)=>(b,false,0))))
theorem E3m {a:Int} {s:Sty} {R:List Cel×Bool×Int} (hR:C4z a s=R):cI Tryz.prog 88 [iv a,ag (B3 s)] [] [] ({r:VR // bR 12 R.1.length r}) (fun x=>.tuple #[ag [.slice (va x.1.q) R.1.length x.1.k,bv R.2.1],iv R.2.2]) (fun x=>((vo C0 37 x.1 R.1)++([]))) (fun x=>[]):=by
 refine bZ Tryz.func88 fun X hX hr hD=>?_
 replace hR:=(C4z.eq_1 ..).symm.trans hR
 refine bN rfl (A8c 3 [] (fun g d=>[(3,pt g 0),(4,pt d 0)]) (fun _ _=>(B3 s)) (fun _ _=>[.slice none 0 0,bv false]) 26 34 fun g d=>(ie (A5 (bN rfl (bO 3 9 rfl ?_)))))
 refine zir 3 0 9 12 (decide ((80:Int)<a)) (fun m j=>?_) ?_
 ·refine bO 3 12 rfl ?_
  exact A3 (O6 2 9 12 m bT bQ rfl rfl rfl rfl rfl)
 refine ie ?_
 refine zjo rfl hR ?_ ?_<;>clear hR<;>intro hR t i
 ·refine bN rfl (zru 3 [0] [(5,iv 2)] 0 (bx d [.slice none 0 0,bv false] 34) ?_)
  subst hR
  refine ie (A8 ?_)
  exact cD hr hD (Q9 rfl (D4 (us:=[.slice none 0 0,bv false]) A3w rfl 0 rfl rfl rfl) (B0 rfl)) ⟨VR.nil,bR.nil⟩ bQ bT
 refine A4 (nx (A5 (bN rfl (bY 1 2 [1] [(14,ag (B3 s))] (zv rfl (V1 (s:=s) rfl) (bO 1 6 rfl (ie (bN rfl (bO 2 17 rfl (ie ?_))))))))))
 refine zjn rfl hR ?_ ?_<;>clear hR<;>intro hR p n
 ·refine bN rfl (zru 4 [0] [(5,iv (D5 s))] 0 (bx d [.slice none 0 0,bv false] 34) ?_)
  subst hR
  refine ie (A8 ?_)
  exact cD hr hD (Q9 rfl (D4 (us:=[.slice none 0 0,bv false]) A3w rfl 0 rfl rfl rfl) (B0 rfl)) ⟨VR.nil,bR.nil⟩ bQ bT
 refine A4 (nx (bN rfl (bY 1 7 [1] [(20,ag (B3 s))] (zv rfl (B4e (s:=s) rfl) (it rfl (C1 (c:=C0) (xs:=([(G8 s)]:List Cel)) W9 rfl rfl rfl oki) fun o=>?_)))))
 have:([(G8 s)]:List Cel).length=1:=rfl
 refine bO 1 23 rfl ?_
 have l:=C9 hR;clear hR;obtain ⟨h,f,hR⟩:=l
 refine zc rfl (A7v (x:=([(G8 s)]:List Cel)) (count:=a) (xq:=(some ⟨o,0,none⟩)) (xk:=1) f bP bP bP (by first|rfl|omega)) fun ⟨e,b⟩=>?_
 have:=bR.le b
 have:=bR.cap b
 refine zru 3 [0] [(5,iv 0)] 0 (bx d [.slice (va e.q) h.length e.k,bv false] 34) ?_
 subst hR
 refine ie (A8 ?_)
 exact cD hr hD (Q9 rfl (D4 (us:=[.slice (va e.q) h.length e.k,bv false]) A3w rfl 0 rfl rfl rfl) (B0 rfl)) ⟨e,b⟩ bQ bT
@[reducible] def aI:List Value := (C8 ScrC.zero ⟨none,0,0⟩ ⟨none,0,0⟩ ⟨none,0,0⟩ ⟨none,0,0⟩)
@[reducible] def aG (s:ScrC) (a:Option Addr) (b:List (Rwc Cel)) (c:Nat) (d:Option Addr) (e:List (Rwc Cel)) (f:Nat) (g:Option Addr) (h:List Bool) (i:Nat):List Value := C8 s ⟨a,b.length,c⟩ ⟨d,e.length,f⟩ ⟨none,0,0⟩ ⟨g,h.length,i⟩
theorem E4u:ApTy Tryz.prog 38 34 2 32:=⟨by kernel_rfl,by kernel_rfl,rfl⟩
theorem B1r:SlTy Tryz.prog 38 34 2:=⟨by kernel_rfl,by kernel_rfl⟩
theorem D7p:Ty Tryz.prog 50 80 true:=⟨by kernel_rfl⟩
theorem C2i:Zero Tryz.prog 34 [.slice none 0 0,bv false]:=⟨by kernel_rfl⟩
def V0 (a:Int) (s:Sty):List (Rwc Cel)→List (Rwc Cel)→Nat→List (Rwc Cel)
 | [],l,t13=>l
 | hd_l0::tl_l0,l,t13=>(C2 (C4z a s) fun (b:List Cel×Bool×Int)=>V0 a s tl_l0 (l.set t13 (⟨b.1,b.2.1⟩:Rwc Cel)) (t13+1))
def A7j (b:Int) (a:Int) (s:Sty):List (Rwc Cel) :=
 V0 b s (List.replicate ((a).toNat) (bS:Rwc Cel)) (List.replicate ((a).toNat) (bS:Rwc Cel)) 0
theorem oll {p:Prop} (h:p:=by first|rfl|simp only [List.flatten_cons,List.flatten_nil,List.cons_append,List.append_assoc,List.nil_append,List.append_nil]):p:=h
theorem D1l {e a:Int} {s:Sty} {R:List (Rwc Cel)} (hR:A7j e a s=R) (a6:1≤a∧a≤40:=by exact bP) (a4:2≤e∧e≤80:=by exact bP):cI Tryz.prog 35 [iv e,iv a,ag (B3 s)] [] [] ({t:VR×List Rwq // bR 2 R.length t.1∧F1 t.2 R}) (fun x=>.slice (va x.1.1.q) R.length x.1.1.k) (fun x=>((vo G2 34 x.1.1 x.1.2)++([]))) (fun x=>[E7 C0 x.1.2 R]):=by
 refine bZ Tryz.func35 fun X hX hr hD=>?_
 replace hR:=(A7j.eq_1 ..).symm.trans hR
 refine bN rfl (zra 2 [] (fun u=>[(5,pt u 0)]) (fun _=>(B3 s)) 26 fun u=>(ie (bN rfl (bO 1 9 rfl (D7 (q:=E7 C0 (List.replicate ((a).toNat) cF) (List.replicate ((a).toNat) (bS:Rwc Cel))) E5j ?_)))))
 refine it rfl (C6d (α:=Cel) (l:=(a).toNat) (cc:=(a).toNat) E4u C2i.ok rfl (by exact congrArg (fun z=>some (Value.int .i64 z)) (show a=(((a).toNat:Nat):Int) by omega)) (by exact congrArg (fun z=>some (Value.int .i64 z)) (show a=(((a).toNat:Nat):Int) by omega)) opx ofv opx) fun ⟨r2,n⟩=>?_
 have:(List.replicate ((a).toNat) cF).length=((a).toNat):=List.length_replicate
 have:=bR.le n
 have:=bR.cap n
 have:(List.replicate ((a).toNat) (bS:Rwc Cel)).length=(a).toNat:=List.length_replicate
 refine bO 1 7 rfl (ie (A5 (bN rfl (cJ 3 12 13 rfl (ie (B2 ?_))))))
 refine A4v (un fun (l:List (Rwc Cel))=>un fun (lr:VR)=>un fun (h:List Rwq) (d:Nat)=>(d≤(List.replicate ((a).toNat) (bS:Rwc Cel)).length∧V0 e s ((List.replicate ((a).toNat) (bS:Rwc Cel)).drop d) l d=R∧bR 2 l.length lr∧F1 h l∧l.length=a.toNat,[(0,iv e),(5,pt u 0),(7,.slice (va lr.q) l.length lr.k),(12,iv ((List.replicate ((a).toNat) (bS:Rwc Cel)).length:Int)),(13,iv (d:Int))],(bx u (B3 s) 26::((vo G2 34 lr h)++([]))),[E7 C0 (List.replicate ((a).toNat) cF) (List.replicate ((a).toNat) (bS:Rwc Cel)),E7 C0 h l],(List.replicate ((a).toNat) (bS:Rwc Cel)).length - d)) ((List.replicate ((a).toNat) (bS:Rwc Cel)),r2,List.replicate ((a).toNat) cF,0) ⟨opx,hR,n,(F1.rep ((a).toNat)),(by exact List.length_replicate)⟩ bQ c9 ?_
 rintro ⟨l,lr,h,d⟩ ⟨a3,hR,f,b,a0⟩
 have:=bR.le f
 have:=b.1
 have:(List.replicate (a.toNat) (bS:Rwc Cel)).length=a.toNat:=List.length_replicate
 have:=b.1
 refine bN rfl (bO 1 14 rfl ?_)
 refine ie (A5 (X7 rfl (fun w=>?_) (fun w=>?_)))
 ·have v:=bU w
  rw [A1f bS (show d<(List.replicate ((a).toNat) (bS:Rwc Cel)).length by omega)] at hR;replace hR:=(V0.eq_2 ..).symm.trans hR
  refine A4 (nx (A5 (B2 (bN rfl (bO 2 8 rfl (ie (A0 10 rfl (bY 4 6 [0] [(17,.slice (va lr.q) l.length lr.k),(18,iv (d:Int)),(19,iv e),(20,ag (B3 s))] ?_))))))))
  have hQ:=C9 hR;clear hR;obtain ⟨g,a1,hR⟩:=hQ
  refine zc rfl (E3m a1) fun ⟨i,j⟩=>?_
  have:=bR.le j
  have:=bR.cap j
  refine ip' 3 2 [(22,ag [.slice (va i.q) g.1.length i.k,bv g.2.1])] ?_
  obtain ⟨b8,a2⟩:=bR.some f opx
  obtain ⟨y,o,m⟩:=lr
  obtain rfl:y=some b8:=a2
  refine D7 (C7p (k:=d) b 1 rfl (by have:=b.1;omega)) ?_
  have:=B8c b (k:=d) (by have:=b.1;omega)
  refine ix rfl (X2 B1r rfl rfl rfl d rfl (by have:=b.1;omega)) ?_
  have:=bR.cap j
  have:=bR.le j
  refine A3t [bx u (B3 s) 26] ((vo G2 34 (⟨some b8,o,m⟩:VR) h)++([])) (T:=37) (c:=C0) (r:=i) (xs:=g.1) j oll ?_
  have p:F1 (h.set d (⟨⟨va i.q,g.1.length,i.k⟩,g.2.1⟩:Rwq)) (l.set d (⟨g.1,g.2.1⟩:Rwc Cel)):=F1.set b d ⟨rfl,okl,okl⟩ rfl
  refine D7 (E5e d (r:=(⟨⟨va i.q,g.1.length,i.k⟩,g.2.1⟩:Rwq)) (x:=(⟨g.1,g.2.1⟩:Rwc Cel)) (B8 3 rfl) (B8 0 rfl)) ?_
  refine it rfl (W7 (us:=[.slice (va i.q) g.1.length i.k,bv g.2.1]) (u':=(⟨⟨va i.q,g.1.length,i.k⟩,g.2.1⟩:Rwq)) (c:=G2) (sz:=2) A3w (fun _=>rfl) rfl rfl rfl 1 rfl rfl rfl rfl d 0 rfl (gd cF (by have:=b.1;omega)) rfl rfl) fun _=>?_
  refine A3 (nx (A0 2 rfl (ix rfl (B4 rfl rfl rfl rfl opx) (bO 1 13 rfl (A3 ?_)))))
  exact A0d (z1:=(l,(⟨some b8,o,m⟩:VR),h,d)) ((l.set d (⟨g.1,g.2.1⟩:Rwc Cel)),(⟨some b8,o,m⟩:VR),(h.set d (⟨⟨va i.q,g.1.length,i.k⟩,g.2.1⟩:Rwq)),d+1) ⟨opx,hR,(bR.cast f oom),p,(by (rw [List.length_set];exact a0))⟩ olr bQ c9
 have v:=bU w
 rw [A2g v] at hR;replace hR:=(V0.eq_1 ..).symm.trans hR
 refine G6 (nx (bN rfl (bO 2 6 rfl ?_)))
 subst hR
 refine ie (A8 ?_)
 exact cD hr hD (N4 rfl (B0 rfl)) ⟨(lr,h),⟨f,b⟩⟩ bQ c9
def B0q (b:Int) (a:Int) (s:Sty):List (Rwc Cel)×Int :=
 (bif ((((decide (b<2))||(decide ((80:Int)<b)))||(decide (a<1)))||(decide ((40:Int)<a))) then (([]:List (Rwc Cel)),2) else (bif (!decide ((D5 s)=0)) then (([]:List (Rwc Cel)),(D5 s)) else (C2 (A7j b a s) fun (c:List (Rwc Cel))=>(c,0))))
theorem D0c {b a:Int} {s:Sty} {R:List (Rwc Cel)×Int} (hR:B0q b a s=R):cI Tryz.prog 17 [iv b,iv a,ag (B3 s)] [] [] ({t:VR×List Rwq // bR 2 R.1.length t.1∧F1 t.2 R.1}) (fun x=>.tuple #[.slice (va x.1.1.q) R.1.length x.1.1.k,iv R.2]) (fun x=>((vo G2 34 x.1.1 x.1.2)++([]))) (fun x=>[E7 C0 x.1.2 R.1]):=by
 refine bZ Tryz.func17 fun X hX hr hD=>?_
 replace hR:=(B0q.eq_1 ..).symm.trans hR
 refine bN rfl (zra 3 [] (fun l=>[(5,pt l 0)]) (fun _=>(B3 s)) 26 fun l=>(ie (A5 (bN rfl (bO 3 11 rfl ?_)))))
 refine zir 3 8 11 14 (decide ((80:Int)<b)) (fun r v=>?_) ?_
 ·refine bO 3 14 rfl ?_
  exact A3 (O6 2 11 14 r bT bQ rfl rfl rfl rfl rfl)
 refine bO 1 15 rfl ?_
 refine zio 3 4 15 18 (decide (a<1)) (fun j=>?_) ?_
 ·have o:=bU j
  refine bO 3 18 rfl ?_
  exact A3 (O6 2 15 18 j bT bQ rfl rfl rfl rfl rfl)
 refine bO 1 19 rfl ?_
 refine zio 3 0 19 22 (decide ((40:Int)<a)) (fun m=>?_) ?_
 ·have w:=bU m
  refine bO 3 22 rfl ?_
  exact A3 (O6 2 19 22 m bT bQ rfl rfl rfl rfl rfl)
 refine ie ?_
 refine zjb rfl hR ?_ ?_<;>clear hR<;>intro hR i
 ·have h:=bU i
  refine bN rfl (cJ 2 6 7 rfl ?_)
  subst hR
  refine ie (A8 ?_)
  exact cD hr hD (Q9 rfl (B0 rfl) (B0 rfl)) ⟨(VR.nil,([]:List Rwq)),⟨bR.nil,F1.none⟩⟩ bQ c9
 have h:=bU i
 refine A4 (nx (A5 (bN rfl (bY 1 2 [0] [(23,ag (B3 s))] (zv rfl (V1 rfl) (bO 1 8 rfl (ie (bN rfl (bO 2 26 rfl (ie ?_))))))))))
 refine zjn rfl hR ?_ ?_<;>clear hR<;>intro hR z n
 ·refine bN rfl (cJ 3 6 7 rfl ?_)
  subst hR
  refine ie (A8 ?_)
  exact cD hr hD (Q9 rfl (B0 rfl) (B0 rfl)) ⟨(VR.nil,([]:List Rwq)),⟨bR.nil,F1.none⟩⟩ bQ c9
 refine A4 (nx (bN rfl (bY 3 3 [0] [(28,iv b),(29,iv a),(30,ag (B3 s))] ?_)))
 have p:=C9 hR;clear hR;obtain ⟨y,f,hR⟩:=p
 refine zc rfl (D1l f) fun ⟨⟨u,g⟩,d⟩=>?_
 try dsimp only at d
 obtain ⟨e,c⟩:=d
 have:=bR.le e
 have:=bR.cap e
 have:=c.1
 refine cJ 2 6 7 rfl ?_
 subst hR
 refine ie (A8 ?_)
 exact cD hr hD (Q9 rfl (B0 rfl) (B0 rfl)) ⟨(u,g),⟨e,c⟩⟩ bQ c9
def X0 (cols:Int) (rows:Int):ScrC×List (Rwc Cel)×List (Rwc Cel)×List Bool×Int :=
 (C2 (B0q cols rows Sty.zero) fun (a:List (Rwc Cel)×Int)=>(bif (!decide (a.2=0)) then (ScrC.zero,([]:List (Rwc Cel)),([]:List (Rwc Cel)),([]:List Bool),a.2) else (C2 (B0q cols rows Sty.zero) fun (c:List (Rwc Cel)×Int)=>(C2 (Z5 cols) fun (b:List Bool×Int)=>({ScrC.zero with cols:=cols,rows:=rows,modes:=A6s,bottom:=(IntKind.i64.wrap (rows - (1:Int)))},a.1,c.1,b.1,b.2)))))
theorem C5l (c r:Int):(X0 c r).1.title.length=0:=by
 unfold X0 C2
 simp only [Bool.cond_eq_ite]
 split<;>rfl
theorem D4g (c r:Int) (s:Sty):(B0q c r s).1.length≤100:=by
 have h:∀ (w:Int) (b l:List (Rwc Cel)) (t:Nat),(V0 w s b l t).length=l.length:=by
  intro w b
  induction b with
  | nil=>intros;rfl
  | cons a b ih=>intro l t;simp only [V0,C2];rw [ih,List.length_set]
 unfold B0q
 cases hb:((((decide (c<2))||(decide ((80:Int)<c)))||(decide (r<1)))||(decide ((40:Int)<r))) with
 | true=>exact Nat.zero_le _
 | false =>
  simp only [Bool.or_eq_false_iff,decide_eq_false_iff_not] at hb
  rw [cond_false]
  cases decide (D5 s=0) with
  | false=>exact Nat.zero_le _
  | true=>show (A7j c r s).length≤100;unfold A7j;rw [h,List.length_replicate];omega
theorem C9r (c r:Int):(X0 c r).2.1.length≤100∧(X0 c r).2.2.1.length≤100:=by
 unfold X0 C2
 have h:=D4g c r Sty.zero
 simp only [Bool.cond_eq_ite]
 split
 ·exact ⟨Nat.zero_le _,Nat.zero_le _⟩
 ·exact ⟨h,h⟩
theorem D3g {cols rows:Int} {R:ScrC×List (Rwc Cel)×List (Rwc Cel)×List Bool×Int} (hR:X0 cols rows=R):cI Tryz.prog 7 [iv cols,iv rows] [] [] ({t:VR×List Rwq // bR 2 R.2.1.length t.1∧F1 t.2 R.2.1}×{t:VR×List Rwq // bR 2 R.2.2.1.length t.1∧F1 t.2 R.2.2.1}×{r:VR // bR 1 R.2.2.2.1.length r}) (fun x=>.tuple #[ag (aG R.1 (va x.1.1.1.q) R.2.1 x.1.1.1.k (va x.2.1.1.1.q) R.2.2.1 x.2.1.1.1.k (va x.2.2.1.q) R.2.2.2.1 x.2.2.1.k),iv R.2.2.2.2]) (fun x=>((vo G2 34 x.1.1.1 x.1.1.2)++((vo G2 34 x.2.1.1.1 x.2.1.1.2)++((vo R7 4 x.2.2.1 R.2.2.2.1)++([]))))) (fun x=>[E7 C0 x.1.1.2 R.2.1,E7 C0 x.2.1.1.2 R.2.2.1]):=by
 refine bZ Tryz.func7 fun X hX hr hD=>?_
 replace hR:=(X0.eq_1 ..).symm.trans hR
 refine bN rfl (zra 2 [] (fun m=>[(4,pt m 0)]) (fun _=>aI) 50 fun m=>(ie (bN rfl (bY 3 6 [] [(12,iv cols),(13,iv rows),(14,ag (B3 Sty.zero))] ?_))))
 have o:=C9 hR;clear hR;obtain ⟨p,v,hR⟩:=o
 refine zc rfl (D0c v) fun ⟨⟨c,j⟩,s⟩=>?_
 try dsimp only at s
 obtain ⟨i,n⟩:=s
 have:=bR.le i
 have:=bR.cap i
 have:=n.1
 refine cJ 5 6 7 rfl (ie (A5 (bN rfl (bO 2 19 rfl (ie ?_)))))
 refine zjn rfl hR ?_ ?_<;>clear hR<;>intro hR h7 z
 ·refine bN rfl (zru 4 [0] [(5,iv p.2)] 0 (bx m aI 50) ?_)
  subst hR
  refine ie (A8 ?_)
  exact cD hr hD (Q9 rfl (B5t (us:=C8 ScrC.zero ⟨none,0,0⟩ ⟨none,0,0⟩ ⟨none,0,0⟩ ⟨none,0,0⟩) D7p rfl 0 rfl rfl) (B0 rfl)) (⟨(VR.nil,([]:List Rwq)),⟨bR.nil,F1.none⟩⟩,⟨(VR.nil,([]:List Rwq)),⟨bR.nil,F1.none⟩⟩,⟨VR.nil,bR.nil⟩) bQ c9
 refine A4 (nx (bN rfl (bY 3 6 [] [(23,iv cols),(24,iv rows),(25,ag (B3 Sty.zero))] ?_)))
 have o:=C9 hR;clear hR;obtain ⟨u,y,hR⟩:=o
 refine zc rfl (D0c y) fun ⟨⟨d,h⟩,g⟩=>?_
 try dsimp only at g
 obtain ⟨b,f⟩:=g
 have:=bR.le b
 have:=bR.cap b
 have:=f.1
 refine bO 5 8 rfl (ie (bN rfl (bO 1 30 rfl ?_)))
 have o:=C9 hR;clear hR;obtain ⟨l,w,hR⟩:=o
 refine zc rfl (D9z w) fun ⟨a,e⟩=>?_
 have:=bR.le e
 have:=bR.cap e
 refine cJ 5 10 7 rfl (ie (bN rfl (pp4 4 34 35 36 37 rfl (zv rfl (E0f rfl) (bO 1 39 rfl (ix rfl (I6.pure rfl) ?_))))))
 refine zru 5 [0] [(5,iv l.2)] 0 (bx m (C8 ({ScrC.zero with cols:=cols,rows:=rows,modes:=A6s,bottom:=(IntKind.i64.wrap (rows - (1:Int)))}) ⟨va c.q,p.1.length,c.k⟩ ⟨va d.q,u.1.length,d.k⟩ ⟨none,0,0⟩ ⟨va a.q,l.1.length,a.k⟩) 50) ?_
 subst hR
 refine ie (A8 (Q3 (H2 [[bx m (C8 ({ScrC.zero with cols:=cols,rows:=rows,modes:=A6s,bottom:=(IntKind.i64.wrap (rows - (1:Int)))}) ⟨va c.q,p.1.length,c.k⟩ ⟨va d.q,u.1.length,d.k⟩ ⟨none,0,0⟩ ⟨va a.q,l.1.length,a.k⟩) 50],vo R7 4 a l.1,vo G2 34 d h,vo G2 34 c j] [0,3,2,1] 4 rfl ozw rfl [[bx m (C8 ({ScrC.zero with cols:=cols,rows:=rows,modes:=A6s,bottom:=(IntKind.i64.wrap (rows - (1:Int)))}) ⟨va c.q,p.1.length,c.k⟩ ⟨va d.q,u.1.length,d.k⟩ ⟨none,0,0⟩ ⟨va a.q,l.1.length,a.k⟩) 50],vo G2 34 c j,vo G2 34 d h,vo R7 4 a l.1] rfl opv) ?_))
 exact cD hr hD (Q9 rfl (B5t (us:=C8 ({ScrC.zero with cols:=cols,rows:=rows,modes:=A6s,bottom:=(IntKind.i64.wrap (rows - (1:Int)))}) ⟨va c.q,p.1.length,c.k⟩ ⟨va d.q,u.1.length,d.k⟩ ⟨none,0,0⟩ ⟨va a.q,l.1.length,a.k⟩) D7p rfl 0 rfl rfl) (B0 rfl)) (⟨(c,j),⟨i,n⟩⟩,⟨(d,h),⟨b,f⟩⟩,⟨a,e⟩) bQ c9
@[reducible] def aF (s:Sty) (l:List Value):List Value := iv s.attr::iv s.under::iv s.fore.kind::iv s.fore.n::iv s.back.kind::iv s.back.n::iv s.line.kind::iv s.line.n::l
theorem B6b:ApTy Tryz.prog 28 60 6 56:=⟨by kernel_rfl,by kernel_rfl,rfl⟩
theorem E1k:EqT Tryz.prog 26 B3:=EqT.of 20 rfl oki oki (fun _ _=>by kernel_rfl) B3.inj
theorem A6y:Ty Tryz.prog 26 8 true:=⟨by kernel_rfl⟩
theorem D7t:Ty Tryz.prog 28 1 false:=⟨by kernel_rfl⟩
theorem E7g:Ty Tryz.prog 349 5 true:=⟨by kernel_rfl⟩
def D4b (a:Act):Prop:=a.kind=39∧a.text=[]
def A5w (a:Int) (m:Int) (c:Col):List Act :=
 (([]:List Act)++([{Act.zero with kind:=39,n:=a,m:=m,color:=c}]:List Act))
theorem C8f (a m:Int) (c:Col):(A5w a m c).length=1:=by
 unfold A5w;simp
theorem D2b {a m:Int} {c:Col} {e:Nat} {R:List Act} (hR:A5w a m c=R) (i:([]:List Act).length≤2000:=by exact bP):cI Tryz.prog 308 [pt e 0,iv a,iv m,ag (P0 c)] [bx e [.slice none 0 0] 346] [] ({r:VR // bR 6 R.length r}) (fun x=>.tuple #[]) (fun x=>(bx e [.slice (va x.1.q) R.length x.1.k] 346::((vo A1 60 x.1 R)++([])))) (fun x=>[]):=by
 refine bZ Tryz.func308 fun X hX hr hD=>?_
 replace hR:=(A5w.eq_1 ..).symm.trans hR
 refine bN rfl (zra 1 [] (fun g=>[(7,pt g 0)]) (fun _=>(P0 c)) 24 fun g=>(ie (zSn [(16,[0]),(15,[1])] ?_)))
 refine hq4 [0,1,2,3,4,6,7] 8 12 14 15 rfl ?_
 refine gl 5 [0,1] rfl (A2 (v:=.slice none 0 0) D7t rfl rfl 1 rfl rfl) ?_
 refine gl 8 [0,1] rfl (D6 (us:=P0 c) A8u rfl rfl 0 rfl rfl rfl) ?_
 refine gk 9 rfl (U8 (cs:=A1 ({Act.zero with kind:=39,n:=a,m:=m,color:=c})) rfl rfl oki) ?_
 refine go 10 [0,1] rfl (C1 (c:=A1) (xs:=([{Act.zero with kind:=39,n:=a,m:=m,color:=c}]:List Act)) A2p rfl rfl rfl oki) fun h=>?_
 have:([{Act.zero with kind:=39,n:=a,m:=m,color:=c}]:List Act).length=1:=rfl
 refine go 11 [0,1] rfl (A0f (f:=A1) (r:=VR.nil) (xs:=([]:List Act)) (ys:=([{Act.zero with kind:=39,n:=a,m:=m,color:=c}]:List Act)) (pre:=[bx g (P0 c) 24,bx e [.slice none 0 0] 346]) (post:=[]) B6b (fun _=>rfl) (fun _=>rfl) rfl rfl rfl rfl rfl rfl rfl rfl rfl (B8 0 rfl) bR.nil ofv ofv) fun ⟨d,b⟩=>?_
 have:=bR.le b
 have:=bR.cap b
 refine hq1 [12,13,14] 22 rfl ?_
 refine go 15 [0] rfl (D8 (us:=[.slice (va d.q) ((([]:List Act)++([{Act.zero with kind:=39,n:=a,m:=m,color:=c}]:List Act)).length) d.k]) (cs':=[.slice (va d.q) ((([]:List Act)++([{Act.zero with kind:=39,n:=a,m:=m,color:=c}]:List Act)).length) d.k]) D7t rfl rfl rfl 1 rfl rfl rfl rfl rfl rfl) fun _=>?_
 refine gdn ?_
 subst hR
 exact zen hr hD (A0x rfl) ⟨d,b⟩ bQ bT
def V4 (r:List Act) (a:Int) (m:Int) (c:Col):List Act :=
 (r++([{Act.zero with kind:=39,n:=a,m:=m,color:=c}]:List Act))
theorem A1b (r:List Act) (a m:Int) (c:Col):(V4 r a m c).length=r.length+1:=by
 unfold V4;simp
theorem A2v {r:List Act} {a m:Int} {c:Col} {b:Nat} {rr:VR} {R:List Act} (hR:V4 r a m c=R) (g:bR 6 r.length rr:=by exact bP) (j:r.length≤2000:=by exact bP):cI Tryz.prog 308 [pt b 0,iv a,iv m,ag (P0 c)] (bx b [.slice (va rr.q) r.length rr.k] 346::((vo A1 60 rr r)++([]))) [] ({r:VR // bR 6 R.length r}) (fun x=>.tuple #[]) (fun x=>(bx b [.slice (va x.1.q) R.length x.1.k] 346::((vo A1 60 x.1 R)++([])))) (fun x=>[]):=by
 refine bZ Tryz.func308 fun X hX hr hD=>?_
 replace hR:=(V4.eq_1 ..).symm.trans hR
 have:=bR.le g
 refine bN rfl (B2b 1 0 [] (fun d=>[(7,pt d 0)]) (fun d=>(bx d (P0 c) 24::bx b [.slice (va rr.q) r.length rr.k] 346::((vo A1 60 rr r)++([])))) (fun d=>(ie ?_)))
 refine sh' 16 [(16,[bx d (P0 c) 24]),(15,[bx b [.slice (va rr.q) r.length rr.k] 346]),(11,vo A1 60 rr r)] [] (bx d (P0 c) 24::bx b [.slice (va rr.q) r.length rr.k] 346::((vo A1 60 rr r)++([]))) (bV 16 0) oki rfl oki oki oki bQ A9.refl ?_
 refine zhp [0,1,2,3,4,6,7] 9 (bV 16 223) [(8,pt b 0),(12,pt b 0),(14,iv a),(15,iv m)] ?_
 refine zhl 5 (bx d (P0 c) 24::bx b [.slice (va rr.q) r.length rr.k] 346::((vo A1 60 rr r)++([]))) (bV 16 255) rfl (A2 (v:=.slice (va rr.q) r.length rr.k) D7t rfl rfl 1 rfl rfl) ?_
 refine zhl 8 [bx d (P0 c) 24,bx b [.slice (va rr.q) r.length rr.k] 346] (bV 16 511) rfl (D6 (us:=P0 c) A8u rfl rfl 0 rfl rfl rfl) ?_
 refine zhk 9 (bV 16 1023) rfl (U8 (cs:=A1 ({Act.zero with kind:=39,n:=a,m:=m,color:=c})) rfl rfl oki) ?_
 refine zho 10 (bx d (P0 c) 24::bx b [.slice (va rr.q) r.length rr.k] 346::((vo A1 60 rr r)++([]))) (bV 16 2047) rfl (C1 (c:=A1) (xs:=([{Act.zero with kind:=39,n:=a,m:=m,color:=c}]:List Act)) A2p rfl rfl rfl oki) (fun i=>bQ) (fun i=>bT) fun i=>?_
 have:([{Act.zero with kind:=39,n:=a,m:=m,color:=c}]:List Act).length=1:=rfl
 refine zho 11 [bx d (P0 c) 24,bx b [.slice (va rr.q) r.length rr.k] 346] (bV 16 4095) rfl (A0f (f:=A1) (r:=rr) (xs:=r) (ys:=([{Act.zero with kind:=39,n:=a,m:=m,color:=c}]:List Act)) (pre:=[bx d (P0 c) 24,bx b [.slice (va rr.q) r.length rr.k] 346]) (post:=[]) B6b (fun _=>rfl) (fun _=>rfl) rfl rfl rfl rfl rfl rfl rfl rfl rfl (B8 0 rfl) g ofv ofv) (fun ⟨h,e⟩=>bQ) (fun ⟨h,e⟩=>bT) fun ⟨h,e⟩=>?_
 have:=bR.le e
 have:=bR.cap e
 refine zhp [12,13,14] 1 (bV 16 32767) [(22,pt b 0)] ?_
 refine zho 15 [bx d (P0 c) 24] (bV 16 65535) rfl (D8 (us:=[.slice (va h.q) ((r++([{Act.zero with kind:=39,n:=a,m:=m,color:=c}]:List Act)).length) h.k]) (cs':=[.slice (va h.q) ((r++([{Act.zero with kind:=39,n:=a,m:=m,color:=c}]:List Act)).length) h.k]) D7t rfl rfl rfl 1 rfl rfl rfl rfl rfl rfl) (fun _=>bQ) (fun _=>bT) fun _=>?_
 refine A2a oki ?_
 subst hR
 exact zen hr hD (A0x rfl) ⟨h,e⟩ bQ bT
def A3c (c:Int) (a:Int→List Act→List Act) (b:List Act):List Act :=
 a (c * 2) b
def A3z (a:List Act):List Act :=
 a
def A4g (from_:Sty) (to_:Sty) (b:List Act):List Act :=
 (bif (!(decide (from_.line=to_.line))) then (C2 (V4 b 6 0 to_.line) fun (a:List Act)=>A3z a) else A3z b)
def A4b (from_:Sty) (to_:Sty) (b:List Act):List Act :=
 (bif (!(decide (from_.back=to_.back))) then (C2 (V4 b 5 0 to_.back) fun (a:List Act)=>A4g from_ to_ a) else A4g from_ to_ b)
def A2z (from_:Sty) (to_:Sty) (b:List Act):List Act :=
 (bif (!(decide (from_.fore=to_.fore))) then (C2 (V4 b 4 0 to_.fore) fun (a:List Act)=>A4b from_ to_ a) else A4b from_ to_ b)
def A2y (b:Int) (a:Int→List Act→List Act) (c:List Act):List Act :=
 a (b * 2) c
def R2 (from_:Sty) (to_:Sty) (a:Int):Nat→Int→List Act→List Act
 | 0,_,_=>[]
 | fu3+1,bit1,y2=>(bif (decide ((255:Int)<bit1)) then (bif (!decide (from_.under=to_.under)) then (C2 (V4 y2 3 to_.under Col.zero) fun (c:List Act)=>A2z from_ to_ c) else A2z from_ to_ y2) else (bif ((!decide ((bW .and .i64 to_.attr bit1)=0))&&(decide ((bW .and .i64 a bit1)=0))) then (C2 (V4 y2 1 bit1 Col.zero) fun (b:List Act)=>A2y bit1 (R2 from_ to_ a fu3) b) else A2y bit1 (R2 from_ to_ a fu3) y2))
def S7 (from_:Sty) (to_:Sty) (a:Int):Nat→Int→List Act→List Act
 | 0,_,_=>[]
 | fu1+1,bit,y5=>(bif (decide (bit≤255)) then (bif ((!decide ((bW .and .i64 a bit)=0))&&(decide ((bW .and .i64 to_.attr bit)=0))) then (C2 (V4 y5 2 bit Col.zero) fun (b:List Act)=>A3c bit (S7 from_ to_ a fu1) b) else A3c bit (S7 from_ to_ a fu1) y5) else R2 from_ to_ a (((512:Int) - 1).toNat+1) 1 y5)
def Z7 (from_:Sty) (to_:Sty) (b:Int) (a:List Act):List Act :=
 S7 from_ to_ b (((512:Int) - 1).toNat+1) 1 a
def A5m (from_:Sty) (to_:Sty):List Act :=
 (bif (!decide ((bW .and .i64 (bW .andNot .i64 from_.attr to_.attr) 3)=0)) then (C2 (A5w 2 3 Col.zero) fun (a:List Act)=>Z7 from_ to_ (bW .andNot .i64 from_.attr 3) a) else Z7 from_ to_ from_.attr ([]:List Act))
def kA (n m:Int):Act:={Act.zero with kind:=39,n:=n,m:=m}
def kC (n:Int) (c:Col):Act:={Act.zero with kind:=39,n:=n,color:=c}
def A1q (c:Bool) (a:Act):List Act:=bif c then [a] else []
def D2v:List Int:=[1,2,4,8,16,32,64,128]
def D4m (a:Int) (t:Sty) (b:Int):Bool:=(!decide ((bW .and .i64 a b)=0))&&(decide ((bW .and .i64 t.attr b)=0))
def D7z (a:Int) (t:Sty) (b:Int):Bool:=(!decide ((bW .and .i64 t.attr b)=0))&&(decide ((bW .and .i64 a b)=0))
def D5m (a:Int) (t:Sty):List Act:=D2v.flatMap fun b=>A1q (D4m a t b) (kA 2 b)
def sets (a:Int) (t:Sty):List Act:=D2v.flatMap fun b=>A1q (D7z a t b) (kA 1 b)
def B8b (f t:Sty):List Act:=A1q (!decide (f.under=t.under)) (kA 3 t.under)++(A1q (!decide (f.fore=t.fore)) (kC 4 t.fore)++(A1q (!decide (f.back=t.back)) (kC 5 t.back)++A1q (!decide (f.line=t.line)) (kC 6 t.line)))
def C6u (f t:Sty):Bool:=!decide ((bW .and .i64 (bW .andNot .i64 f.attr t.attr) 3)=0)
def B3v (f t:Sty):Int:=bif C6u f t then bW .andNot .i64 f.attr 3 else f.attr
def chg (f t:Sty):List Act:=A1q (C6u f t) (kA 2 3)++(D5m (B3v f t) t++(sets (B3v f t) t++B8b f t))
theorem A7s {c:Bool} {a x:Act} (h:x ∈ A1q c a):x=a:=by cases c<;>simp [A1q] at h;exact h
theorem E3o (c:Bool) (a:Act):(A1q c a).length≤1:=by cases c<;>simp [A1q]
theorem B4f (f t:Sty) (l:List Act):A2z f t l=l++(A1q (!decide (f.fore=t.fore)) (kC 4 t.fore)++(A1q (!decide (f.back=t.back)) (kC 5 t.back)++A1q (!decide (f.line=t.line)) (kC 6 t.line))):=by
 unfold A2z A4b A4g A3z
 simp only [C2,V4]
 generalize decide (f.fore=t.fore)=a
 generalize decide (f.back=t.back)=b
 generalize decide (f.line=t.line)=c
 cases a<;>cases b<;>cases c<;>simp [A1q,kC,Act.zero]
theorem R5 (f t:Sty) (a:Int) (F:Nat) (b:Int) (l:List Act) (c:b≤255):R2 f t a (F+1) b l=R2 f t a F (b * 2) (l++A1q (D7z a t b) (kA 1 b)):=by
 rw [R2,decide_eq_false (by omega:¬ (255:Int)<b),cond_false]
 show (bif D7z a t b then _ else _)=_
 cases D7z a t b with
 | true=>simp only [cond_true,C2,A2y];rfl
 | false=>simp only [cond_false,A2y,A1q,List.append_nil]
theorem C2u (f t:Sty) (a:Int) (F:Nat) (l:List Act):R2 f t a (F+1) 256 l=l++B8b f t:=by
 rw [R2,decide_eq_true (by omega:(255:Int)<256),cond_true]
 unfold B8b
 cases decide (f.under=t.under) with
 | true=>simp only [Bool.not_true,cond_false,B4f,A1q,List.nil_append]
 | false=>simp only [Bool.not_false,cond_true,C2,B4f,A1q,V4,List.append_assoc];rfl
theorem C3v (f t:Sty) (a:Int) (F:Nat) (b:9≤F) (l:List Act):R2 f t a F 1 l=l++(sets a t++B8b f t):=by
 obtain ⟨G,rfl⟩:∃ G,F=G+1+1+1+1+1+1+1+1+1:=⟨F - 9,by omega⟩
 rw [R5 _ _ _ _ _ _ opx,R5 _ _ _ _ _ _ opx,R5 _ _ _ _ _ _ opx,R5 _ _ _ _ _ _ opx,R5 _ _ _ _ _ _ opx,R5 _ _ _ _ _ _ opx,R5 _ _ _ _ _ _ opx,R5 _ _ _ _ _ _ opx]
 rw [show (1:Int) * 2 * 2 * 2 * 2 * 2 * 2 * 2 * 2=256 by omega,C2u]
 unfold sets D2v
 simp only [List.flatMap_cons,List.flatMap_nil,List.append_assoc,List.append_nil,List.nil_append]
 rfl
theorem R6 (f t:Sty) (a:Int) (F:Nat) (b:Int) (l:List Act) (c:b≤255):S7 f t a (F+1) b l=S7 f t a F (b * 2) (l++A1q (D4m a t b) (kA 2 b)):=by
 rw [S7,decide_eq_true c,cond_true]
 generalize ((512:Int) - 1).toNat+1=Z
 show (bif D4m a t b then _ else _)=_
 cases D4m a t b with
 | true=>simp only [cond_true,C2,A3c];rfl
 | false=>simp only [cond_false,A3c,A1q,List.append_nil]
theorem C2t (f t:Sty) (a:Int) (F:Nat) (l:List Act):S7 f t a (F+1) 256 l=l++(sets a t++B8b f t):=by
 rw [S7,decide_eq_false (by omega:¬ (256:Int)≤255),cond_false]
 generalize hF:((512:Int) - 1).toNat+1=Z
 exact C3v f t a Z opx l
theorem B4o (f t:Sty) (a:Int) (l:List Act):Z7 f t a l=l++(D5m a t++(sets a t++B8b f t)):=by
 rw [Z7]
 generalize hF:((512:Int) - 1).toNat+1=F
 obtain ⟨G,rfl⟩:∃ G,F=G+1+1+1+1+1+1+1+1+1:=⟨F - 9,by omega⟩
 clear hF
 rw [R6 _ _ _ _ _ _ opx,R6 _ _ _ _ _ _ opx,R6 _ _ _ _ _ _ opx,R6 _ _ _ _ _ _ opx,R6 _ _ _ _ _ _ opx,R6 _ _ _ _ _ _ opx,R6 _ _ _ _ _ _ opx,R6 _ _ _ _ _ _ opx]
 rw [show (1:Int) * 2 * 2 * 2 * 2 * 2 * 2 * 2 * 2=256 by omega,C2t]
 unfold D5m D2v
 simp only [List.flatMap_cons,List.flatMap_nil,List.append_assoc,List.append_nil,List.nil_append]
 rfl
theorem C7s (f t:Sty) (X:List Act) (c:Bool) (a:C6u f t=c) (h:(bif c then (C2 (A5w 2 3 Col.zero) fun (r:List Act)=>Z7 f t (bW .andNot .i64 f.attr 3) r) else Z7 f t f.attr ([]:List Act))=X):X=chg f t:=by
 unfold chg B3v
 rw [a]
 clear a
 cases c with
 | true=>rw [cond_true] at h;obtain ⟨r,hr,h⟩:=C9 h;rw [B4o] at h;rw [← h,← hr,cond_true];unfold A5w A1q kA;rw [cond_true,List.nil_append];rfl
 | false=>rw [cond_false,B4o] at h;rw [← h,cond_false];unfold A1q;rw [cond_false]
theorem A5r (f t:Sty):A5m f t=chg f t:=C7s f t _ _ rfl (A5m.eq_1 f t).symm
theorem D3v (f t:Sty):(chg f t).length≤21:=by
 have h:=E3o
 unfold chg D5m sets B8b D2v
 simp only [List.flatMap_cons,List.flatMap_nil,List.length_append,List.length_nil]
 have j:=h (C6u f t) (kA 2 3)
 have c:=fun b=>h (D4m (B3v f t) t b) (kA 2 b)
 have a:=fun b=>h (D7z (B3v f t) t b) (kA 1 b)
 have c1:=c 1;have c2:=c 2;have n:=c 4;have o:=c 8;have r:=c 16;have y:=c 32;have l:=c 64;have s:=c 128
 have p:=a 1;have d:=a 2;have k:=a 4;have m:=a 8;have e:=a 16;have q:=a 32;have g:=a 64;have i:=a 128
 have u:=h (!decide (f.under=t.under)) (kA 3 t.under);have v:=h (!decide (f.fore=t.fore)) (kC 4 t.fore);have w:=h (!decide (f.back=t.back)) (kC 5 t.back);have x:=h (!decide (f.line=t.line)) (kC 6 t.line)
 omega
theorem D4l (f t:Sty):∀ a ∈ chg f t,D4b a:=by
 intro a d
 have e:∀ n m,D4b (kA n m):=fun n m=>⟨rfl,rfl⟩
 have g:∀ n c,D4b (kC n c):=fun n c=>⟨rfl,rfl⟩
 unfold chg D5m sets B8b at d
 simp only [List.mem_append,List.mem_flatMap] at d
 rcases d with h | ⟨b,_,h⟩ | ⟨b,_,h⟩|h|h|h|h<;>(rw [A7s h];first|exact e _ _|exact g _ _)
theorem B7x (f t:Sty):(A5m f t).length≤1100:=by rw [A5r];have:=D3v f t;omega
theorem C1i {from_ to_:Sty} {R:List Act} (hR:A5m from_ to_=R):cI Tryz.prog 268 [ag (B3 from_),ag (B3 to_)] [] [] ({r:VR // bR 6 R.length r}) (fun x=>.slice (va x.1.q) R.length x.1.k) (fun x=>((vo A1 60 x.1 R)++([]))) (fun x=>[]):=by
 refine bZ Tryz.func268 fun X hX hr hD=>?_
 replace hR:=(A5m.eq_1 ..).symm.trans hR
 refine bN rfl (A8c 3 [] (fun b1 b2=>[(2,pt b1 0),(3,pt b2 0)]) (fun _ _=>(B3 from_)) (fun _ _=>(B3 to_)) 26 26 fun b1 b2=>(ie (D4t (bN rfl (zra 3 [] (fun t=>[(5,pt t 0)]) (fun _=>[.slice none 0 0]) 346 fun t=>(ie (bN rfl (ip' 3 0 [(6,.func (.func 308) #[pt t 0] #[])] (ie (bN rfl (cE 3 [2] 7 rfl ?_)))))))))))
 refine ie (A9c (un fun (a2:Int)=>un fun (y:List Act) (w:VR)=>(Z7 from_ to_ a2 y=R∧bR 6 y.length w∧y.length≤1,[(2,pt b1 0),(3,pt b2 0),(5,pt t 0),(6,.func (.func 308) #[pt t 0] #[]),(7,iv a2)],(bx t [.slice (va w.q) y.length w.k] 346::bx b2 (B3 to_) 26::bx b1 (B3 from_) 26::((vo A1 60 w y)++([]))),[])) ?_ ?_)
 ·refine bN rfl (cE 6 [2,1] 8 rfl (ie (bN rfl (bO 3 26 rfl (ie ?_)))))
  refine zjn rfl hR ?_ ?_<;>clear hR<;>intro hR h4 ci
  ·refine bN rfl (bY 2 1 [] [(27,.func (.func 308) #[pt t 0] #[]),(28,ag (P0 Col.zero))] ?_)
   have hQ:=C9 hR;clear hR;obtain ⟨y0,b9,hR⟩:=hQ
   refine zc rfl (D2b b9) fun ⟨r5,ay⟩=>?_
   have:=bR.le ay
   have:=bR.cap ay
   have:=C8f 2 3 Col.zero;try rw [b9] at this
   refine ie (A0 3 rfl (bO 3 7 rfl (A3 ?_)))
   exact X5 (bW .andNot .i64 from_.attr 3,y0,r5) ⟨hR,ay,ozq⟩ bQ bT
  refine A4 (Q3 (H2 [vo A1 60 VR.nil ([]:List Act),[bx t [.slice none 0 0] 346],[bx b2 (B3 to_) 26],[bx b1 (B3 from_) 26]] [1,2,3,0] 4 rfl ozw rfl [[bx t [.slice none 0 0] 346],[bx b2 (B3 to_) 26],[bx b1 (B3 from_) 26],vo A1 60 VR.nil ([]:List Act)] rfl opv) ?_)
  exact X5 (from_.attr,([]:List Act),VR.nil) ⟨hR,bR.nil,ozq⟩ bQ bT
 rintro ⟨a2,y,w⟩
 rintro ⟨hR,a9,hj⟩
 replace hR:=(Z7.eq_1 ..).symm.trans hR
 refine A5 (bN rfl (bO 1 9 rfl ?_))
 refine ie (B2 ?_)
 refine A4v (un fun (fu:Nat)=>un fun (u:Int)=>un fun (y5:List Act) (g:VR)=>(((512:Int) - u).toNat<fu∧S7 from_ to_ a2 fu u y5=R∧bR 6 y5.length g∧1≤u∧u≤510∧y5.length≤u,[(2,pt b1 0),(3,pt b2 0),(5,pt t 0),(6,.func (.func 308) #[pt t 0] #[]),(7,iv a2),(9,iv u)],(bx t [.slice (va g.q) y5.length g.k] 346::bx b2 (B3 to_) 26::bx b1 (B3 from_) 26::((vo A1 60 g y5)++([]))),[],fu)) ((((512:Int) - 1).toNat+1),1,y,w) ⟨(Nat.lt_succ_self _),hR,a9,opx,ozq⟩ bQ bT ?_
 rintro ⟨fu,u,y5,g⟩ ⟨ck,hR,h,hb,hn⟩
 have:=bR.le h
 obtain ⟨fu1,rfl⟩:∃ m,fu=m+1:=⟨fu - 1,by omega⟩
 replace hR:=(S7.eq_2 ..).symm.trans hR
 refine A5 (bN rfl (bO 2 33 rfl ?_))
 refine ie ?_
 refine zjd rfl hR ?_ ?_<;>clear hR<;>intro hR h8 cd
 ·refine A4 (nx (A9c (un fun (aa:List Act) (i:VR)=>(A3c u (S7 from_ to_ a2 fu1) aa=R∧bR 6 aa.length i∧aa.length≤u+1,[(2,pt b1 0),(3,pt b2 0),(5,pt t 0),(6,.func (.func 308) #[pt t 0] #[]),(7,iv a2),(9,iv u)],(bx t [.slice (va i.q) aa.length i.k] 346::bx b2 (B3 to_) 26::bx b1 (B3 from_) 26::((vo A1 60 i aa)++([]))),[])) ?_ ?_))
  ·refine B2 (bN rfl (bO 5 40 rfl ?_))
   refine zia 6 0 40 46 (decide ((bW .and .i64 to_.attr u)=0)) (fun g9=>?_) ?_
   ·have c8:=bU g9
    refine cE 6 [1] 46 rfl ?_
    exact A3 (O6 2 40 46 g9 bT bQ rfl rfl rfl rfl rfl)
   refine ie ?_
   refine zjb rfl hR ?_ ?_<;>clear hR<;>intro hR az
   ·have b7:=bU az
    refine A0 4 rfl (bY 3 1 [] [(47,.func (.func 308) #[pt t 0] #[]),(48,iv u),(49,ag (P0 Col.zero))] ?_)
    have hQ:=C9 hR;clear hR;obtain ⟨y1,be,hR⟩:=hQ
    refine zc rfl (A2v be h) fun ⟨bp,aj⟩=>?_
    have:=bR.le aj
    have:=bR.cap aj
    have:=A1b y5 2 u Col.zero;try rw [be] at this
    refine A3 ?_
    exact X5 (y1,bp) ⟨hR,aj,ozq⟩ bQ bT
   have b7:=bU az
   try (have a8:d≤255:=by have q:=az;simp at q;omega)
   refine A4 ?_
   exact X5 (y5,g) ⟨hR,h,ozq⟩ bQ bT
  rintro ⟨aa,i⟩
  rintro ⟨hR,a7,hj⟩
  replace hR:=(A3c.eq_1 ..).symm.trans hR
  refine A0 3 rfl (bO 1 34 rfl ?_)
  refine ix rfl (B4m (c:=(u * 2)) rfl rfl rfl ozw (by show IntKind.i64.wrap (u * 2)=_;exact A0j (by simp [IntKind.min,IntKind.signed,IntKind.bits];omega) (by simp [IntKind.max,IntKind.signed,IntKind.bits];omega))) (bO 1 9 rfl (A3 ?_))
  exact A0d (z1:=(fu1+1,u,y5,g)) (fu1,u * 2,aa,i) ⟨opx,hR,a7,(by first|omega|(rw [A0j (by simp [IntKind.min,IntKind.signed,IntKind.bits];omega) (by simp [IntKind.max,IntKind.signed,IntKind.bits];omega)];omega)),ozq⟩ (Nat.lt_succ_self _) bQ bT
 refine G6 (nx (A5 (D5j (nx (A5 (bN rfl (bO 1 10 rfl ?_)))))))
 refine ie (B2 ?_)
 refine A4v (un fun (ab:Nat)=>un fun (d:Int)=>un fun (y2:List Act) (f:VR)=>(((512:Int) - d).toNat<ab∧R2 from_ to_ a2 ab d y2=R∧bR 6 y2.length f∧1≤d∧d≤510∧y2.length≤512+d,[(2,pt b1 0),(3,pt b2 0),(5,pt t 0),(6,.func (.func 308) #[pt t 0] #[]),(7,iv a2),(10,iv d)],(bx t [.slice (va f.q) y2.length f.k] 346::bx b2 (B3 to_) 26::bx b1 (B3 from_) 26::((vo A1 60 f y2)++([]))),[],ab)) ((((512:Int) - 1).toNat+1),1,y5,g) ⟨(Nat.lt_succ_self _),hR,h,opx,ozq⟩ bQ bT ?_
 rintro ⟨ab,d,y2,f⟩ ⟨c5,hR,e,hb,hn⟩
 have:=bR.le e
 obtain ⟨fu3,rfl⟩:∃ m,ab=m+1:=⟨ab - 1,by omega⟩
 replace hR:=(R2.eq_2 ..).symm.trans hR
 refine A9c (un fun (y9:List Act) (l:VR)=>(A2y d (R2 from_ to_ a2 fu3) y9=R∧bR 6 y9.length l∧y9.length≤513+d∧d≤255,[(2,pt b1 0),(3,pt b2 0),(5,pt t 0),(6,.func (.func 308) #[pt t 0] #[]),(7,iv a2),(10,iv d)],(bx t [.slice (va l.q) y9.length l.k] 346::bx b2 (B3 to_) 26::bx b1 (B3 from_) 26::((vo A1 60 l y9)++([]))),[])) ?_ ?_
 ·refine B2 (A5 (bN rfl (bO 2 54 rfl ?_)))
  refine ie ?_
  refine zjd rfl hR ?_ ?_<;>clear hR<;>intro hR bk c1
  ·refine G6 (nx (A9c (un fun (y7:List Act) (o:VR)=>(A2z from_ to_ y7=R∧bR 6 y7.length o∧y7.length≤1100,[(2,pt b1 0),(3,pt b2 0),(5,pt t 0),(6,.func (.func 308) #[pt t 0] #[])],(bx t [.slice (va o.q) y7.length o.k] 346::bx b2 (B3 to_) 26::bx b1 (B3 from_) 26::((vo A1 60 o y7)++([]))),[])) ?_ ?_))
   ·refine bN rfl (cE 5 [2,1] 74 rfl (ie ?_))
    refine zjn rfl hR ?_ ?_<;>clear hR<;>intro hR bn c4
    ·refine A0 5 rfl (bY 4 1 [1] [(75,.func (.func 308) #[pt t 0] #[]),(77,iv to_.under),(78,ag (P0 Col.zero))] ?_)
     have hQ:=C9 hR;clear hR;obtain ⟨bu,ax,hR⟩:=hQ
     refine zc rfl (A2v ax e) fun ⟨bj,ad⟩=>?_
     have:=bR.le ad
     have:=bR.cap ad
     have:=A1b y2 3 to_.under Col.zero;try rw [ax] at this
     refine A3 ?_
     exact X5 (bu,bj) ⟨hR,ad,ozq⟩ bQ bT
    try (have a8:d≤255:=by have q:=bn;simp at q;omega)
    refine A4 ?_
    exact X5 (y2,f) ⟨hR,e,ozq⟩ bQ bT
   rintro ⟨y7,o⟩
   rintro ⟨hR,z,hj⟩
   replace hR:=(A2z.eq_1 ..).symm.trans hR
   refine A5 (bN rfl (bY 17 0 [2,1,2,1,2,1] [(95,ag [iv 4,iv from_.fore.kind,iv from_.fore.n,iv to_.fore.kind,iv to_.fore.n,iv 5,iv from_.back.kind,iv from_.back.n,iv to_.back.kind,iv to_.back.n,iv 6,iv from_.line.kind,iv from_.line.n,iv to_.line.kind,iv to_.line.n]),(96,iv 0)] ?_))
   refine ie (B2 (Z6 5 ?_))
   refine D9 (bN rfl (bO 1 97 rfl ?_))
   refine ie (A5 (J9 rfl (A4 (nx (A9c (un fun (y6:List Act) (j:VR)=>(A4b from_ to_ y6=R∧bR 6 y6.length j∧y6.length≤1101,[(5,pt t 0),(6,.func (.func 308) #[pt t 0] #[]),(95,ag [iv 4,iv from_.fore.kind,iv from_.fore.n,iv to_.fore.kind,iv to_.fore.n,iv 5,iv from_.back.kind,iv from_.back.n,iv to_.back.kind,iv to_.back.n,iv 6,iv from_.line.kind,iv from_.line.n,iv to_.line.kind,iv to_.line.n]),(96,iv 0)],(bx t [.slice (va j.q) y6.length j.k] 346::bx b2 (B3 to_) 26::bx b1 (B3 from_) 26::((vo A1 60 j y6)++([]))),[])) ?_ ?_)))))
   ·refine B2 (bN rfl (ix rfl (E9 (v:=ag [iv 4,iv from_.fore.kind,iv from_.fore.n,iv to_.fore.kind,iv to_.fore.n]) (us:=[iv 4,iv from_.fore.kind,iv from_.fore.n,iv to_.fore.kind,iv to_.fore.n]) Tryz.underlying350 E7g rfl rfl rfl 0 rfl ozw rfl rfl rfl) ?_))
    refine zra 2 [0] (fun bb=>[(12,pt bb 0)]) (fun _=>[iv 4,iv from_.fore.kind,iv from_.fore.n,iv to_.fore.kind,iv to_.fore.n]) 349 fun bb=>?_
    refine ie (bN rfl (bY 4 1 [0,0] [(100,ag [iv from_.fore.kind,iv from_.fore.n]),(102,ag [iv to_.fore.kind,iv to_.fore.n])] (ix rfl (X1 (a:=from_.fore) (b:=to_.fore) B2t rfl rfl rfl) (ie ?_))))
    refine zjn rfl hR ?_ ?_<;>clear hR<;>intro hR cj c3
    ·refine A0 6 rfl (bY 5 1 [0,0] [(104,.func (.func 308) #[pt t 0] #[]),(106,iv 4),(108,ag [iv to_.fore.kind,iv to_.fore.n])] ?_)
     have hQ:=C9 hR;clear hR;obtain ⟨bw,au,hR⟩:=hQ
     refine zc rfl (A2v au z) fun ⟨bm,ai⟩=>?_
     have:=bR.le ai
     have:=bR.cap ai
     have:=A1b y7 4 0 to_.fore;try rw [au] at this
     refine A3 ?_
     exact X5 (bw,bm) ⟨hR,ai,ozq⟩ bQ bT
    refine A4 ?_
    exact X5 (y7,o) ⟨hR,z,ozq⟩ bQ bT
   rintro ⟨y6,j⟩
   rintro ⟨hR,a0,hj⟩
   replace hR:=(A4b.eq_1 ..).symm.trans hR
   refine A0 2 rfl (ix rfl (B4 (c:=1) rfl rfl rfl rfl ozw) (bO 1 96 rfl (A3 (D9 (bN rfl (bO 1 97 rfl ?_))))))
   refine ie (A5 (J9 rfl (A4 (nx (A9c (un fun (y8:List Act) (p:VR)=>(A4g from_ to_ y8=R∧bR 6 y8.length p∧y8.length≤1102,[(5,pt t 0),(6,.func (.func 308) #[pt t 0] #[]),(95,ag [iv 4,iv from_.fore.kind,iv from_.fore.n,iv to_.fore.kind,iv to_.fore.n,iv 5,iv from_.back.kind,iv from_.back.n,iv to_.back.kind,iv to_.back.n,iv 6,iv from_.line.kind,iv from_.line.n,iv to_.line.kind,iv to_.line.n]),(96,iv 1)],(bx t [.slice (va p.q) y8.length p.k] 346::bx b2 (B3 to_) 26::bx b1 (B3 from_) 26::((vo A1 60 p y8)++([]))),[])) ?_ ?_)))))
   ·refine B2 (bN rfl (ix rfl (E9 (v:=ag [iv 5,iv from_.back.kind,iv from_.back.n,iv to_.back.kind,iv to_.back.n]) (us:=[iv 5,iv from_.back.kind,iv from_.back.n,iv to_.back.kind,iv to_.back.n]) Tryz.underlying350 E7g rfl rfl rfl 1 rfl ozw rfl rfl rfl) ?_))
    refine zra 2 [0] (fun bc=>[(12,pt bc 0)]) (fun _=>[iv 5,iv from_.back.kind,iv from_.back.n,iv to_.back.kind,iv to_.back.n]) 349 fun bc=>?_
    refine ie (bN rfl (bY 4 1 [0,0] [(100,ag [iv from_.back.kind,iv from_.back.n]),(102,ag [iv to_.back.kind,iv to_.back.n])] (ix rfl (X1 (a:=from_.back) (b:=to_.back) B2t rfl rfl rfl) (ie ?_))))
    refine zjn rfl hR ?_ ?_<;>clear hR<;>intro hR cf c6
    ·refine A0 6 rfl (bY 5 1 [0,0] [(104,.func (.func 308) #[pt t 0] #[]),(106,iv 5),(108,ag [iv to_.back.kind,iv to_.back.n])] ?_)
     have hQ:=C9 hR;clear hR;obtain ⟨bz,aw,hR⟩:=hQ
     refine zc rfl (A2v aw a0) fun ⟨bo,al⟩=>?_
     have:=bR.le al
     have:=bR.cap al
     have:=A1b y6 5 0 to_.back;try rw [aw] at this
     refine A3 ?_
     exact X5 (bz,bo) ⟨hR,al,ozq⟩ bQ bT
    refine A4 ?_
    exact X5 (y6,j) ⟨hR,a0,ozq⟩ bQ bT
   rintro ⟨y8,p⟩
   rintro ⟨hR,a1,hj⟩
   replace hR:=(A4g.eq_1 ..).symm.trans hR
   refine A0 2 rfl (ix rfl (B4 (c:=2) rfl rfl rfl rfl ozw) (bO 1 96 rfl (A3 (D9 (bN rfl (bO 1 97 rfl ?_))))))
   refine ie (A5 (J9 rfl (A4 (nx (A9c (un fun (ak:List Act) (s:VR)=>(A3z ak=R∧bR 6 ak.length s,[(5,pt t 0),(6,.func (.func 308) #[pt t 0] #[]),(95,ag [iv 4,iv from_.fore.kind,iv from_.fore.n,iv to_.fore.kind,iv to_.fore.n,iv 5,iv from_.back.kind,iv from_.back.n,iv to_.back.kind,iv to_.back.n,iv 6,iv from_.line.kind,iv from_.line.n,iv to_.line.kind,iv to_.line.n]),(96,iv 2)],(bx t [.slice (va s.q) ak.length s.k] 346::bx b2 (B3 to_) 26::bx b1 (B3 from_) 26::((vo A1 60 s ak)++([]))),[])) ?_ ?_)))))
   ·refine B2 (bN rfl (ix rfl (E9 (v:=ag [iv 6,iv from_.line.kind,iv from_.line.n,iv to_.line.kind,iv to_.line.n]) (us:=[iv 6,iv from_.line.kind,iv from_.line.n,iv to_.line.kind,iv to_.line.n]) Tryz.underlying350 E7g rfl rfl rfl 2 rfl ozw rfl rfl rfl) ?_))
    refine zra 2 [0] (fun ba=>[(12,pt ba 0)]) (fun _=>[iv 6,iv from_.line.kind,iv from_.line.n,iv to_.line.kind,iv to_.line.n]) 349 fun ba=>?_
    refine ie (bN rfl (bY 4 1 [0,0] [(100,ag [iv from_.line.kind,iv from_.line.n]),(102,ag [iv to_.line.kind,iv to_.line.n])] (ix rfl (X1 (a:=from_.line) (b:=to_.line) B2t rfl rfl rfl) (ie ?_))))
    refine zjn rfl hR ?_ ?_<;>clear hR<;>intro hR cl c2
    ·refine A0 6 rfl (bY 5 1 [0,0] [(104,.func (.func 308) #[pt t 0] #[]),(106,iv 6),(108,ag [iv to_.line.kind,iv to_.line.n])] ?_)
     have hQ:=C9 hR;clear hR;obtain ⟨bl,an,hR⟩:=hQ
     refine zc rfl (A2v an a1) fun ⟨br,ah⟩=>?_
     have:=bR.le ah
     have:=bR.cap ah
     have:=A1b y8 6 0 to_.line;try rw [an] at this
     refine A3 ?_
     exact X5 (bl,br) ⟨hR,ah⟩ bQ bT
    refine A4 ?_
    exact X5 (y8,p) ⟨hR,a1⟩ bQ bT
   rintro ⟨ak,s⟩
   rintro ⟨hR,a6⟩
   replace hR:=(A3z.eq_1 ..).symm.trans hR
   refine A0 2 rfl (ix rfl (B4 (c:=3) rfl rfl rfl rfl ozw) (bO 1 96 rfl (A3 (D9 (bN rfl (bO 1 97 rfl (ie (A5 (Z1 rfl (G6 (nx (bN rfl (cE 6 [0] 4 rfl ?_)))))))))))))
   subst hR
   refine ie (A8 ?_)
   exact cD hr hD (N4 rfl (B0 rfl)) ⟨s,a6⟩ bQ bT
  try (have a8:d≤255:=by have q:=bk;simp at q;omega)
  refine A4 (nx (bN rfl (cE 6 [1] 60 rfl ?_)))
  refine zia 5 0 60 65 (decide ((bW .and .i64 a2 d)=0)) (fun b8=>?_) ?_
  ·have c0:=bU b8
   refine bO 5 65 rfl ?_
   exact A3 (O6 2 60 65 b8 bT bQ rfl rfl rfl rfl rfl)
  refine ie ?_
  refine zjb rfl hR ?_ ?_<;>clear hR<;>intro hR b4
  ·have bd:=bU b4
   refine A0 4 rfl (bY 3 1 [] [(66,.func (.func 308) #[pt t 0] #[]),(67,iv d),(68,ag (P0 Col.zero))] ?_)
   have hQ:=C9 hR;clear hR;obtain ⟨bh,av,hR⟩:=hQ
   refine zc rfl (A2v av e) fun ⟨bi,af⟩=>?_
   have:=bR.le af
   have:=bR.cap af
   have:=A1b y2 1 d Col.zero;try rw [av] at this
   refine A3 ?_
   exact X5 (bh,bi) ⟨hR,af,ozq⟩ bQ bT
  have bd:=bU b4
  try (have a8:d≤255:=by have q:=b4;simp at q;omega)
  refine A4 ?_
  exact X5 (y2,f) ⟨hR,e,ozq⟩ bQ bT
 rintro ⟨y9,l⟩
 rintro ⟨hR,a5,hj⟩
 replace hR:=(A2y.eq_1 ..).symm.trans hR
 refine A0 3 rfl (bO 1 51 rfl ?_)
 refine ix rfl (B4m (c:=(d * 2)) rfl rfl rfl ozw (by show IntKind.i64.wrap (d * 2)=_;exact A0j (by simp [IntKind.min,IntKind.signed,IntKind.bits];omega) (by simp [IntKind.max,IntKind.signed,IntKind.bits];omega))) (bO 1 10 rfl (A3 ?_))
 exact A0d (z1:=(fu3+1,d,y2,f)) (fu3,d * 2,y9,l) ⟨opx,hR,a5,(by first|omega|(rw [A0j (by simp [IntKind.min,IntKind.signed,IntKind.bits];omega) (by simp [IntKind.max,IntKind.signed,IntKind.bits];omega)];omega)),ozq⟩ (Nat.lt_succ_self _) bQ bT
def A1z (from_:Sty) (to_:Sty):List Act×Int :=
 (bif (!decide ((D5 from_)=0)) then (([]:List Act),(D5 from_)) else (bif (!decide ((D5 to_)=0)) then (([]:List Act),(D5 to_)) else (C2 (A5m from_ to_) fun (a:List Act)=>(a,0))))
theorem B7t (f t:Sty):(A1z f t).1.length≤21:=by
 have h:=D3v f t;rw [← A5r] at h
 unfold A1z;simp only [C2,Bool.cond_eq_ite];repeat' split
 all_goals first|exact h|simp
theorem B7v (f t:Sty):∀ a ∈ (A1z f t).1,D4b a:=by
 have h:=D4l f t;rw [← A5r] at h
 unfold A1z;simp only [C2,Bool.cond_eq_ite];repeat' split
 all_goals first|exact h|simp
theorem D1y {from_ to_:Sty} {R:List Act×Int} (hR:A1z from_ to_=R):cI Tryz.prog 224 [ag (B3 from_),ag (B3 to_)] [] [] ({r:VR // bR 6 R.1.length r}) (fun x=>.tuple #[.slice (va x.1.q) R.1.length x.1.k,iv R.2]) (fun x=>((vo A1 60 x.1 R.1)++([]))) (fun x=>[]):=by
 refine bZ Tryz.func224 fun X hX hr hD=>?_
 replace hR:=(A1z.eq_1 ..).symm.trans hR
 refine bN rfl (A8c 4 [] (fun g f=>[(2,pt g 0),(3,pt f 0)]) (fun _ _=>(B3 from_)) (fun _ _=>(B3 to_)) 26 26 fun g f=>(ie (A5 (bN rfl (bY 4 0 [1,0] [(11,ag [iv from_.attr,iv from_.under,iv from_.fore.kind,iv from_.fore.n,iv from_.back.kind,iv from_.back.n,iv from_.line.kind,iv from_.line.n,iv to_.attr,iv to_.under,iv to_.fore.kind,iv to_.fore.n,iv to_.back.kind,iv to_.back.n,iv to_.line.kind,iv to_.line.n]),(12,iv 0)] (ie (B2 (Z6 4 ?_))))))))
 refine D9 (bN rfl (bO 1 13 rfl ?_))
 refine ie (A5 (J9 rfl (A4 (nx (A5 (B2 (bN rfl (ix rfl (E9 (v:=ag (aF from_ [])) (us:=(aF from_ [])) Tryz.underlying315 A6y rfl rfl rfl 0 rfl ozw rfl rfl rfl) ?_))))))))
 refine zra 2 [0] (fun d=>[(7,pt d 0)]) (fun _=>(B3 from_)) 26 fun d=>?_
 refine ie (bN rfl (bY 1 2 [0] [(15,ag (B3 from_))] (zv rfl (V1 rfl) (bO 1 8 rfl (ie (bN rfl (bO 2 18 rfl (ie ?_))))))))
 refine zjn rfl hR ?_ ?_<;>clear hR<;>intro hR o i
 ·refine bN rfl (cJ 3 4 5 rfl ?_)
  subst hR
  refine ie (A8 ?_)
  exact cD hr hD (Q9 rfl (B0 rfl) (B0 rfl)) ⟨VR.nil,bR.nil⟩ bQ bT
 refine A4 (nx (A0 2 rfl (ix rfl (B4 (c:=1) rfl rfl rfl rfl ozw) (bO 1 12 rfl (A3 (D9 (bN rfl (bO 1 13 rfl (ie (A5 (J9 rfl (A4 (nx (A5 (B2 (bN rfl (ix rfl (E9 (v:=ag (aF to_ [])) (us:=(aF to_ [])) Tryz.underlying315 A6y rfl rfl rfl 1 rfl ozw rfl rfl rfl) ?_)))))))))))))))))
 refine zra 2 [0] (fun e=>[(7,pt e 0)]) (fun _=>(B3 to_)) 26 fun e=>?_
 refine ie (bN rfl (bY 1 2 [0] [(15,ag (B3 to_))] (zv rfl (V1 rfl) (bO 1 8 rfl (ie (bN rfl (bO 2 18 rfl (ie ?_))))))))
 refine zjn rfl hR ?_ ?_<;>clear hR<;>intro hR m h
 ·refine bN rfl (cJ 3 4 5 rfl ?_)
  subst hR
  refine ie (A8 ?_)
  exact cD hr hD (Q9 rfl (B0 rfl) (B0 rfl)) ⟨VR.nil,bR.nil⟩ bQ bT
 refine A4 (nx (A0 2 rfl (ix rfl (B4 (c:=2) rfl rfl rfl rfl ozw) (bO 1 12 rfl (A3 (D9 (bN rfl (bO 1 13 rfl (ie (A5 (Z1 rfl (G6 (nx (bN rfl (bY 2 3 [3,2] [(21,ag (B3 from_)),(22,ag (B3 to_))] ?_)))))))))))))))
 have j:=C9 hR;clear hR;obtain ⟨p,b,hR⟩:=j
 refine zc rfl (C1i b) fun ⟨l,a⟩=>?_
 have:=bR.le a
 have:=bR.cap a
 have:=B7x from_ to_;try rw [b] at this
 refine cJ 2 4 5 rfl ?_
 subst hR
 refine ie (A8 ?_)
 exact cD hr hD (Q9 rfl (B0 rfl) (B0 rfl)) ⟨l,a⟩ bQ bT
def A1i (to_:Sty):List Act :=
 (C2 (A5m Sty.zero to_) fun (a:List Act)=>(([{Act.zero with kind:=39,n:=0}]:List Act)++a))
theorem B4s (t:Sty):A1i t=kA 0 0::chg Sty.zero t:=by unfold A1i C2;rw [A5r];rfl
theorem C3w (t:Sty):(A1i t).length≤22:=by rw [B4s];have:=D3v Sty.zero t;simp only [List.length_cons];omega
theorem B7i (t:Sty):∀ a ∈ A1i t,D4b a:=by
 rw [B4s];intro a b
 rcases List.mem_cons.1 b with rfl | b
 ·exact ⟨rfl,rfl⟩
 ·exact D4l _ _ a b
theorem E0k {to_:Sty} {R:List Act} (hR:A1i to_=R):cI Tryz.prog 225 [ag (B3 to_)] [] [] ({r:VR // bR 6 R.length r}) (fun x=>.slice (va x.1.q) R.length x.1.k) (fun x=>((vo A1 60 x.1 R)++([]))) (fun x=>[]):=by
 refine bZ Tryz.func225 fun X hX hr hD=>?_
 replace hR:=(A1i.eq_1 ..).symm.trans hR
 refine bN rfl (zra 2 [] (fun b=>[(1,pt b 0)]) (fun _=>(B3 to_)) 26 fun b=>(ie (bN rfl (bY 1 6 [] [(3,ag (A1 ({Act.zero with kind:=39,n:=0})))] (it rfl (D4q (c:=A1) (xs:=([{Act.zero with kind:=39,n:=0}]:List Act)) A2p rfl rfl rfl oki) fun e=>?_)))))
 have:([{Act.zero with kind:=39,n:=0}]:List Act).length=1:=rfl
 refine bY 1 4 [] [(5,ag (B3 Sty.zero))] (ix rfl (D6 (us:=B3 to_) A6y rfl rfl 1 rfl rfl rfl) ?_)
 have l:=C9 hR;clear hR;obtain ⟨i,h,hR⟩:=l
 refine it rfl (J7 (L2:=((vo A1 60 (⟨some e,1,[]⟩:VR) ([{Act.zero with kind:=39,n:=0}]:List Act))++(bx b (B3 to_) 26::[]))) (C1i (from_:=Sty.zero) (to_:=to_) h) rfl rfl rfl rfl rfl bT (List.Perm.refl _) (fun ⟨g,a⟩=>(bx b (B3 to_) 26::((vo A1 60 g i)++((vo A1 60 (⟨some e,1,[]⟩:VR) ([{Act.zero with kind:=39,n:=0}]:List Act))++([]))))) (fun ⟨g,a⟩=>H2 [vo A1 60 g i,vo A1 60 (⟨some e,1,[]⟩:VR) ([{Act.zero with kind:=39,n:=0}]:List Act),[bx b (B3 to_) 26]] [2,0,1] 3 rfl ozw opv [[bx b (B3 to_) 26],vo A1 60 g i,vo A1 60 (⟨some e,1,[]⟩:VR) ([{Act.zero with kind:=39,n:=0}]:List Act)] rfl opv)) fun ⟨g,a⟩=>?_
 have:=bR.le a
 have:=bR.cap a
 have:=B7x Sty.zero to_;try rw [h] at this
 refine A3t [bx b (B3 to_) 26] ((vo A1 60 (⟨some e,1,[]⟩:VR) ([{Act.zero with kind:=39,n:=0}]:List Act))++([])) (T:=60) (c:=A1) (r:=g) (xs:=i) a opv ?_
 refine it rfl (B8y (f:=A1) (r:=(⟨some e,1,[]⟩:VR)) (xs:=([{Act.zero with kind:=39,n:=0}]:List Act)) (ys:=i) (pre:=[bx b (B3 to_) 26]) (post:=[]) B6b (fun _=>rfl) (fun _=>rfl) rfl rfl rfl rfl rfl rfl rfl rfl (B8 0 rfl) (show bR 6 1 _ from ⟨rfl,Nat.le_refl _,Nat.le_of_ble_eq_true rfl⟩) ofv ofv) fun ⟨j,d⟩=>?_
 have:=bR.le d
 have:=bR.cap d
 refine bO 1 2 rfl ?_
 subst hR
 refine ie (A8 ?_)
 exact cD hr hD (N4 rfl (B0 rfl)) ⟨j,d⟩ bQ bT
def A4h (l:List Act):Int×Int :=
 (C2 (N8 l) fun (a:List UInt8×Int)=>((a.1.length:Int),a.2))
theorem C8t {l:List Act} {lq:Option Addr} {lk:Nat} {R:Int×Int} (hR:A4h l=R) (h:l.length≤9223372036854775807:=by exact bP) (j:l.length≤lk:=by exact bP) (e:∀ a ∈ l,D4b a:=by exact bP) (f:l.length≤2000:=by exact bP):J5 Tryz.prog 226 [.slice lq l.length lk] [sl A1 lq l,P6,P7,O0,M9,K6,P4] (.tuple #[iv R.1,iv R.2]):=by
 refine bZ Tryz.func226 fun X hX hr hD=>?_
 replace hR:=(A4h.eq_1 ..).symm.trans hR
 refine bN rfl (pp0 2 rfl (ie (bN rfl (bO 1 7 rfl ?_))))
 have i:=C9 hR;clear hR;obtain ⟨g,c,hR⟩:=i
 refine zc rfl (B2c c bP bP (by first|exact mwA'_kind hel|exact mwA'_kind1 hbm|exact mwA'_kind1 (mwA'_getD hwq.1 _)|exact fun x b=>by rw [(e x b).2];exact Nat.zero_le _|exact fun x b=>hnt x b|assumption|decide|exact fun x b=>Nat.le_trans (hrow x b) ozw|exact fun x b=>Nat.le_trans (of_decide_eq_true (List.all_eq_true.1 hbt x b)) ozw|(intro x b;simp only [List.nil_append,List.mem_append] at b;rcases b with b|b<;>first|exact Nat.le_trans (hrow x b) ozw|exact Nat.le_trans (hpt x b) ozw)|(intro x b;rw [List.mem_singleton.1 b];omega)|exact fun x b=>Nat.le_trans (hrow x (List.mem_of_mem_take b)) ozw|exact fun x b=>Nat.le_trans (hrow x (List.mem_of_mem_drop b)) ozw|exact fun x b=>Nat.le_trans (hrow x (List.mem_of_mem_drop (List.mem_of_mem_take b))) ozw|omega)) fun ⟨k,d⟩=>?_
 have:=bR.le d
 have:=bR.cap d
 try have:=A8a l (fun x b=>Nat.le_trans (hrow x (by first|exact b|exact List.mem_of_mem_take b|exact List.mem_of_mem_drop b)) ozw);try rw [c] at this
 refine cJ 5 4 5 rfl (ie (bN rfl (cJ 5 2 3 rfl ?_)))
 subst hR
 refine ie (A8 ?_)
 exact B1g hr hD
def A6a (from_:Sty) (to_:Sty):List Act×Int :=
 (C2 (A1z from_ to_) fun (a:List Act×Int)=>(bif ((!decide (a.2=0))||(decide (from_=to_))) then (([]:List Act),a.2) else (C2 (A1i to_) fun (b:List Act)=>(C2 (A4h a.1) fun (d:Int×Int)=>(C2 (A4h b) fun (c:Int×Int)=>(bif (((!decide (d.2=0))||(!decide (c.2=0)))||(decide (d.1≤c.1))) then (a.1,0) else (b,0)))))))
theorem B5d (f t:Sty):(A6a f t).1.length≤22:=by
 have h:=B7t f t;have a:=C3w t
 unfold A6a;simp only [C2,Bool.cond_eq_ite];repeat' split
 all_goals first|exact a|exact Nat.le_trans h opx|simp
theorem B5h (f t:Sty):∀ a ∈ (A6a f t).1,D4b a:=by
 have h:=B7v f t;have b:=B7i t
 unfold A6a;simp only [C2,Bool.cond_eq_ite];repeat' split
 all_goals first|exact b|exact h|simp
theorem ojv {p:Prop} (h:p:=by first|assumption|omega):p:=h
theorem D9c {from_ to_:Sty} {R:List Act×Int} (hR:A6a from_ to_=R):cI Tryz.prog 136 [ag (B3 from_),ag (B3 to_)] [] [P6,P7,O0,M9,K6,P4] ({r:VR // bR 6 R.1.length r}) (fun x=>.tuple #[.slice (va x.1.q) R.1.length x.1.k,iv R.2]) (fun x=>((vo A1 60 x.1 R.1)++([]))) (fun x=>[]):=by
 refine bZ Tryz.func136 fun X hX hr hD=>?_
 replace hR:=(A6a.eq_1 ..).symm.trans hR
 refine bN rfl (A8c 4 [] (fun t s=>[(2,pt t 0),(3,pt s 0)]) (fun _ _=>(B3 from_)) (fun _ _=>(B3 to_)) 26 26 fun t s=>(ie (bN rfl (bY 2 6 [1,0] [(13,ag (B3 from_)),(14,ag (B3 to_))] ?_))))
 have g:=C9 hR;clear hR;obtain ⟨a4,e,hR⟩:=g
 refine zc rfl (D1y e) fun ⟨r3,c⟩=>?_
 have:=bR.le c
 have:=bR.cap c
 have:=B7t from_ to_;try rw [e] at this
 have:=B7v from_ to_;try rw [e] at this
 refine cJ 5 6 7 rfl (ie (A5 (bN rfl (bO 3 20 rfl ?_))))
 refine zio 4 0 20 24 (decide (from_=to_)) (fun p=>?_) ?_
 ·have a2:=bU p
  refine bY 2 2 [1,0] [(21,ag (B3 from_)),(22,ag (B3 to_))] (ix rfl (C0c (a:=from_) (b:=to_) E1k rfl rfl rfl) (bO 1 24 rfl ?_))
  exact A3 (O6 5 20 24 p A9.refl bQ rfl rfl rfl rfl rfl)
 refine ie ?_
 refine zjb rfl hR ?_ ?_<;>clear hR<;>intro hR u
 ·have n:=bU u
  refine bN rfl (cJ 3 4 5 rfl ?_)
  subst hR
  refine ie (A8 ?_)
  exact cD hr hD (Q9 rfl (B0 rfl) (B0 rfl)) ⟨VR.nil,bR.nil⟩ bQ bT
 have n:=bU u
 refine A4 (nx (bN rfl (bY 1 2 [0] [(26,ag (B3 to_))] ?_)))
 have g:=C9 hR;clear hR;obtain ⟨a1,f,hR⟩:=g
 refine zc rfl (E0k f) fun ⟨r7,d⟩=>?_
 have:=bR.le d
 have:=bR.cap d
 have:=C3w to_;try rw [f] at this
 have:=B7i to_;try rw [f] at this
 refine bO 1 8 rfl (ie (bN rfl (bO 1 29 rfl ?_)))
 have:=bR.cap c
 have:=bR.le c
 have g:=C9 hR;clear hR;obtain ⟨y,o,hR⟩:=g
 refine zc rfl (cI.lend (T:=60) c (C8t o bP bP ojv)) fun _=>?_
 refine cJ 5 9 7 rfl (ie (bN rfl (bO 1 34 rfl ?_)))
 have:=bR.cap d
 have:=bR.le d
 have g:=C9 hR;clear hR;obtain ⟨j,h,hR⟩:=g
 refine zc rfl (cI.lend (T:=60) d (C8t h bP bP ojv)) fun _=>?_
 refine cJ 5 10 11 rfl (ie (A5 (bN rfl (bO 3 40 rfl ?_))))
 refine zio 3 5 40 43 (!decide (j.2=0)) (fun w=>?_) ?_
 ·have z:=bU w
  refine bO 3 43 rfl ?_
  exact A3 (O6 2 40 43 w A9.refl bQ rfl rfl rfl rfl rfl)
 refine bO 1 44 rfl ?_
 refine zio 4 0 44 48 (decide (y.1≤j.1)) (fun i=>?_) ?_
 ·have v:=bU i
  refine bO 4 48 rfl ?_
  exact A3 (O6 2 44 48 i A9.refl bQ rfl rfl rfl rfl rfl)
 refine ie ?_
 refine zjb rfl hR ?_ ?_<;>clear hR<;>intro hR l
 ·have m:=bU l
  refine bN rfl (cJ 3 4 5 rfl ?_)
  subst hR
  refine ie (A8 ?_)
  exact cD hr hD (Q9 rfl (B0 rfl) (B0 rfl)) ⟨r3,c⟩ bQ bT
 have m:=bU l
 refine A4 (nx (bN rfl (cJ 3 4 5 rfl ?_)))
 subst hR
 refine ie (A8 ?_)
 exact cD hr hD (Q9 rfl (B0 rfl) (B0 rfl)) ⟨r7,d⟩ bQ bT
theorem E6g:EqT Tryz.prog 37 C0:=EqT.of 20 rfl oki oki (fun _ _=>by kernel_rfl) C0.inj
def M3 (c:Cel):Bool :=
 (decide (c={Cel.zero with wide:=2,sty:=c.sty}))
theorem A9f {c:Cel} {R:Bool} (hR:M3 c=R):J5 Tryz.prog 32 [ag (C0 c)] [] (bv R):=by
 refine bZ Tryz.func32 fun X hX hr hD=>?_
 replace hR:=(M3.eq_1 ..).symm.trans hR
 refine bN rfl (zra 2 [] (fun d=>[(1,pt d 0)]) (fun _=>(C0 c)) 37 fun d=>(ie (bN rfl (bY 4 2 [0,0] [(3,ag (C0 c)),(6,ag (C0 ({Cel.zero with wide:=2,sty:=c.sty})))] (ix rfl (C0c (a:=c) (b:={Cel.zero with wide:=2,sty:=c.sty}) E6g rfl rfl rfl) (bO 1 2 rfl ?_))))))
 subst hR
 refine ie (A8 ?_)
 exact G0 hr hD
def Y4 (l:Ar2):Bool :=
 (bif ((!decide (l.a=0))&&(!decide ((F6 l.a)=0))) then false else (bif ((!decide (l.b=0))&&((decide (l.a=0))||(!decide ((F6 l.b)=0)))) then false else true))
theorem D4h {l:Ar2} {R:Bool} (hR:Y4 l=R):J5 Tryz.prog 34 [ag (B6n l)] [P6,P7] (bv R):=by
 refine bZ Tryz.func34 fun X hX hr hD=>?_
 replace hR:=(Y4.eq_1 ..).symm.trans hR
 refine bN rfl (zra 2 [] (fun g=>[(1,pt g 0)]) (fun _=>(B6n l)) 35 fun g=>(ie (bN rfl (bO 1 3 rfl (ie (A5 (bN rfl (bY 2 0 [0] [(6,ag (B6n l)),(7,iv 0)] (ie (B2 (Z6 4 ?_)))))))))))
 refine D9 (bN rfl (bO 1 8 rfl ?_))
 refine ie (A5 (J9 rfl (A4 (nx (A5 (B2 (bN rfl (ix rfl (E9 Tryz.underlying35 cA rfl rfl rfl 0 rfl ozw rfl rfl rfl) (bO 1 5 rfl (ie (A5 (bN rfl (bO 3 12 rfl ?_)))))))))))))
 refine zia 7 0 12 19 (!decide ((F6 l.a)=0)) (fun i=>?_) ?_
 ·have p:=bU i
  refine cJ 3 14 15 rfl (zv rfl (A3p rfl) (bO 3 19 rfl ?_))
  exact zai 5 12 19 i
 refine ie ?_
 refine zjb rfl hR ?_ ?_<;>clear hR<;>intro hR f
 ·have e:=bU f
  refine bN rfl (bO 1 2 rfl ?_)
  subst hR
  refine ie (A8 ?_)
  exact G0 hr hD
 have e:=bU f
 refine A4 (nx (A0 6 rfl (bO 6 3 rfl (A3 (nx (A0 2 rfl (ix rfl (B4 (c:=1) rfl rfl rfl rfl ozw) (bO 1 7 rfl (A3 (D9 (bN rfl (bO 1 8 rfl (ie (A5 (J9 rfl (A4 (nx (A5 (B2 (bN rfl (ix rfl (E9 Tryz.underlying35 cA rfl rfl rfl 1 rfl ozw rfl rfl rfl) (bO 1 5 rfl (ie (A5 (bN rfl (bO 3 12 rfl ?_))))))))))))))))))))))))))
 refine zia 7 0 12 19 ((decide (l.a=0))||(!decide ((F6 l.b)=0))) (fun h=>?_) ?_
 ·have q:=bU h
  refine bO 2 14 rfl ?_
  refine zir 4 1 14 18 (!decide ((F6 l.b)=0)) (fun k n=>?_) ?_
  ·refine bO 1 15 rfl (zv rfl (A3p rfl) (bO 2 18 rfl ?_))
   exact zai 4 14 18 k
  refine bO 1 19 rfl ?_
  exact zai 4 12 19 h
 refine ie ?_
 refine zjb rfl hR ?_ ?_<;>clear hR<;>intro hR j
 ·have d:=bU j
  refine bN rfl (bO 1 2 rfl ?_)
  subst hR
  refine ie (A8 ?_)
  exact G0 hr hD
 have d:=bU j
 refine A4 (nx (A0 6 rfl (bO 2 21 rfl ?_)))
 refine zir 3 1 21 24 (decide (l.b=0)) (fun o m=>?_) ?_
 ·refine bO 3 24 rfl ?_
  exact zai 2 21 24 o
 refine bO 1 3 rfl (A3 (nx (A0 2 rfl (ix rfl (B4 (c:=2) rfl rfl rfl rfl ozw) (bO 1 7 rfl (A3 (D9 (bN rfl (bO 1 8 rfl (ie (A5 (Z1 rfl (G6 (nx (bN rfl (bO 1 2 rfl ?_))))))))))))))))
 subst hR
 refine ie (A8 ?_)
 exact G0 hr hD
def F5 (c:Cel):Int :=
 (bif ((!((M3 c)||((((decide ((0:Int)≤c.wide))&&(decide (c.wide≤1)))&&(decide ((F6 c.base)=(IntKind.i64.wrap (c.wide+(1:Int))))))&&(Y4 c.marks))))||(!decide ((D5 c.sty)=0))) then 221 else 0)
theorem D6b {c:Cel} (a:M3 c=false) (h:F5 c=0):0≤c.wide∧c.wide≤1:=by
 unfold F5 at h
 rw [a] at h
 by_cases q:0≤c.wide∧c.wide≤1
 ·exact q
 ·rw [show (decide ((0:Int)≤c.wide)&&decide (c.wide≤1))=false by simp only [Bool.and_eq_false_iff,decide_eq_false_iff_not];omega] at h
  simp at h
theorem B7y {c:Cel} {R:Int} (hR:F5 c=R):J5 Tryz.prog 16 [ag (C0 c)] [P6,P7] (iv R):=by
 refine bZ Tryz.func16 fun X hX hr hD=>?_
 replace hR:=(F5.eq_1 ..).symm.trans hR
 refine bN rfl (zra 2 [] (fun e=>[(1,pt e 0)]) (fun _=>(C0 c)) 37 fun e=>(ie (sd 27 rfl oki rfl ?_)))
 refine zdg 1 26 [0] [(4,ag (C0 c))] ?_
 refine zvd rfl (A9f rfl) (pd1 1 6 rfl ?_)
 refine zdO 23 1 6 29 ((((decide ((0:Int)≤c.wide))&&(decide (c.wide≤1)))&&(decide ((F6 c.base)=(IntKind.i64.wrap (c.wide+(1:Int))))))&&(Y4 c.marks)) (fun l=>?_) ?_
 ·refine pg1 4 [0] 10 rfl ?_
  refine zdd 4 15 10 14 (decide (c.wide≤1)) (fun j i=>?_) ?_
  ·refine pg1 4 [0] 14 rfl ?_
   exact zad 2 10 14 j
  refine pd1 1 15 rfl ?_
  refine zda 8 6 15 23 (decide ((F6 c.base)=(IntKind.i64.wrap (c.wide+(1:Int))))) (fun f=>?_) ?_
  ·have m:=bU f
   refine pg1 2 [0] 17 rfl (zvd rfl (A3p rfl) (pg1 2 [0] 20 rfl (dd rfl (I6.pure rfl) (pd1 2 23 rfl ?_))))
   exact zad 6 15 23 f
  refine pd1 1 24 rfl ?_
  refine zda 4 1 24 28 (Y4 c.marks) (fun d=>?_) ?_
  ·have k:=bU d
   refine zdg 2 2 [0] [(26,ag (B6n c.marks))] ?_
   refine zvd rfl (D4h rfl) (pd1 1 28 rfl ?_)
   exact zad 4 24 28 d
  refine pd1 1 29 rfl ?_
  exact zad 8 6 29 l
 refine pd1 1 3 rfl (de (A5 (bN rfl (bO 3 32 rfl ?_))))
 refine zio 5 0 32 37 (!decide ((D5 c.sty)=0)) (fun b=>?_) ?_
 ·have h:=bU b
  refine bY 2 3 [0] [(34,ag (B3 c.sty))] (zv rfl (V1 rfl) (bO 2 37 rfl ?_))
  exact zai 4 32 37 b
 refine ie ?_
 refine zjb rfl hR ?_ ?_<;>clear hR<;>intro hR g
 ·have a:=bU g
  refine bN rfl (bO 1 2 rfl ?_)
  subst hR
  refine ie (A8 ?_)
  exact G0 hr hD
 have a:=bU g
 refine A4 (nx (bN rfl (bO 1 2 rfl ?_)))
 subst hR
 refine ie (A8 ?_)
 exact G0 hr hD
def O1:List Cel→Nat→Cel→Int
 | [],t19,last=>(bif (decide (last.wide=1)) then 220 else 0)
 | hd_l0::tl_l0,t19,last=>(bif (((!decide ((F5 hd_l0)=0))||(!((decide (last.wide=1)) == (decide (hd_l0.wide=2)))))||((decide (hd_l0.wide=2))&&(!(decide (hd_l0.sty=last.sty))))) then 220 else O1 tl_l0 (t19+1) hd_l0)
def G5 (bB:List Cel) (bC:Bool):Int :=
 (bif ((decide ((bB.length:Int)<2))||(decide ((80:Int)<(bB.length:Int)))) then 220 else O1 bB 0 Cel.zero)
theorem B2n {c:Cel} (h:M3 c=true):c.wide=2:=by
 unfold M3 at h;rw [of_decide_eq_true h]
theorem E4j {c:Cel} (h:F5 c=0):0≤c.wide∧c.wide≤2:=by
 unfold F5 at h
 cases h1:M3 c with
 | true=>have:=B2n h1;omega
 | false =>
  rw [h1] at h
  by_cases h2:0≤c.wide∧c.wide≤1
  ·omega
  ·rw [show ((decide ((0:Int)≤c.wide))&&(decide (c.wide≤1)))=false by simp only [Bool.and_eq_false_iff,decide_eq_false_iff_not];omega] at h
   simp at h
theorem D2p:∀ (l:List Cel) (t:Nat) (last:Cel),O1 l t last=0→∀ c ∈ l,0≤c.wide∧c.wide≤2
 | [],_,_,_=>fun c a=>by cases a
 | x::l,t,last,h=>by
  rw [O1] at h
  by_cases h0:F5 x=0
  ·intro c a
   rcases List.mem_cons.1 a with rfl | a
   ·exact E4j h0
   ·cases hb:(((!decide ((F5 x)=0))||(!((decide (last.wide=1)) == (decide (x.wide=2)))))||((decide (x.wide=2))&&(!(decide (x.sty=last.sty))))) with
    | true=>rw [hb] at h;exact absurd (show (220:Int)=0 from h) ozw
    | false=>rw [hb] at h;exact D2p l (t+1) x h c a
  ·rw [decide_eq_false h0] at h;exact absurd (show (220:Int)=0 from h) ozw
theorem Z0 {l:List Cel} {w:Bool} (h:G5 l w=0):2≤l.length∧l.length≤80∧∀ c ∈ l,0≤c.wide∧c.wide≤2:=by
 unfold G5 at h
 by_cases hl:2≤l.length∧l.length≤80
 ·rw [show ((decide ((l.length:Int)<2))||(decide ((80:Int)<(l.length:Int))))=false by simp only [Bool.or_eq_false_iff,decide_eq_false_iff_not];omega] at h
  exact ⟨hl.1,hl.2,D2p l 0 Cel.zero h⟩
 ·rw [show ((decide ((l.length:Int)<2))||(decide ((80:Int)<(l.length:Int))))=true by simp only [Bool.or_eq_true,decide_eq_true_eq];omega] at h
  exact absurd (show (220:Int)=0 from h) ozw
theorem D9h:∀ {l:List Cel},O1 l 0 Cel.zero=0→l.length≠0→(l.getD 0 Cel.zero).wide≠2
 | [],_,h=>absurd rfl h
 | c::l,h,_=>by
  intro e
  unfold O1 at h
  have a:c.wide=2:=e
  rw [a] at h
  simp [Cel.zero] at h
theorem E3r {l:List Cel} {w:Bool} (h:G5 l w=0):(l.getD 0 Cel.zero).wide≠2:=by
 have b:=(Z0 h).1
 have a:=(Z0 h).2.1
 unfold G5 at h
 rw [show ((decide ((l.length:Int)<2))||(decide ((80:Int)<(l.length:Int))))=false by simp only [Bool.or_eq_false_iff,decide_eq_false_iff_not];omega] at h
 exact D9h h opx
theorem D7s {l:List Cel} {w:Bool} {i:Int} (h:G5 l w=0) (b:0≤i) (a:M3 (l.getD i.toNat Cel.zero)=true):1≤i:=by
 by_cases q:0<i
 ·omega
 ·obtain rfl:i=0:=by omega
  exact absurd (B2n a) (E3r h)
theorem A7p {bB:List Cel} {bC:Bool} {aZ:Option Addr} {bA:Nat} {R:Int} (hR:G5 bB bC=R) (y:bB.length≤9223372036854775807:=by exact bP) (z:bB.length≤bA:=by exact bP):J5 Tryz.prog 6 [ag [.slice aZ bB.length bA,bv bC]] [sl C0 aZ bB,P6,P7] (iv R):=by
 refine bZ Tryz.func6 fun X hX hr hD=>?_
 replace hR:=(G5.eq_1 ..).symm.trans hR
 refine bN rfl (zra 2 [] (fun l=>[(1,pt l 0)]) (fun _=>[.slice aZ bB.length bA,bv bC]) 34 fun l=>(ie (A5 (bN rfl (cE 4 [0] 3 rfl (ie (bN rfl (bO 3 12 rfl ?_))))))))
 refine zir 3 0 12 15 (decide ((80:Int)<(bB.length:Int))) (fun w x=>?_) ?_
 ·refine bO 3 15 rfl ?_
  exact zai 2 12 15 w
 refine ie ?_
 refine zjo rfl hR ?_ ?_<;>clear hR<;>intro hR h3 v
 ·refine bN rfl (bO 1 2 rfl ?_)
  subst hR
  refine ie (A8 ?_)
  exact G0 hr hD
 refine A4 (nx (bN rfl (zra 1 [] (fun h=>[(4,pt h 0)]) (fun _=>(C0 Cel.zero)) 37 fun h=>(ie (A5 (bN rfl (pl3 4 [1] 17 18 19 rfl (ie (B2 (A4v (un fun (d:Nat) (last:Cel)=>(d≤bB.length∧O1 (bB.drop d) d last=R,[(4,pt h 0),(17,.slice aZ bB.length bA),(18,iv (bB.length:Int)),(19,iv (d:Int))],[bx h (C0 last) 37,bx l [.slice aZ bB.length bA,bv bC] 34],[sl C0 aZ bB,P6,P7],bB.length - d)) (0,Cel.zero) ⟨opx,hR⟩ bQ A9.refl ?_))))))))))
 rintro ⟨d,last⟩ ⟨u,hR⟩
 refine bN rfl (bO 1 20 rfl ?_)
 refine ie (A5 (X7 rfl (fun o=>?_) (fun o=>?_)))
 ·have f:=bU o
  rw [A1f Cel.zero (show d<bB.length by omega)] at hR;replace hR:=(O1.eq_2 ..).symm.trans hR
  refine A4 (nx (A5 (B2 (bN rfl (L9 0 rfl opx fun a7 e=>(ix rfl (H9 W9 rfl rfl e rfl d rfl opx) (ix rfl (K5 (us:=C0 (bB.getD d Cel.zero)) C0t rfl rfl (K2 (c:=C0) (sz:=12) e (fun _=>rfl) 0 rfl (gd Cel.zero opx)) rfl) ?_)))))))
  refine zra 2 [0] (fun n=>[(6,pt n 0)]) (fun _=>(C0 (bB.getD d Cel.zero))) 37 fun n=>?_
  refine ie (A5 (bN rfl (bY 1 23 [0] [(23,ag (C0 (bB.getD d Cel.zero)))] (zv rfl (B7y rfl) (bO 2 26 rfl ?_)))))
  refine zio 8 12 26 34 (!((decide (last.wide=1)) == (decide ((bB.getD d Cel.zero).wide=2)))) (fun g=>?_) ?_
  ·have r:=bU g
   refine pl2 6 [1,0] 29 32 rfl (ix rfl (E9e Tryz.underlying4 rfl rfl rfl) (bO 1 34 rfl ?_))
   exact zai 5 26 34 g
  refine bO 1 35 rfl ?_
  refine zio 11 0 35 46 ((decide ((bB.getD d Cel.zero).wide=2))&&(!(decide ((bB.getD d Cel.zero).sty=last.sty)))) (fun k=>?_) ?_
  ·have s:=bU k
   refine cE 4 [0] 39 rfl ?_
   refine zid 6 1 39 45 (!(decide ((bB.getD d Cel.zero).sty=last.sty))) (fun m q=>?_) ?_
   ·refine bY 4 2 [0,1] [(41,ag (B3 ((bB.getD d Cel.zero).sty))),(43,ag (B3 last.sty))] (ix rfl (X1 (a:=(bB.getD d Cel.zero).sty) (b:=last.sty) E1k rfl rfl rfl) (bO 1 45 rfl ?_))
    exact zai 5 39 45 m
   refine bO 1 46 rfl ?_
   exact zai 4 35 46 k
  refine ie ?_
  refine zjb rfl hR ?_ ?_<;>clear hR<;>intro hR i
  ·have j:=bU i
   refine bN rfl (bO 1 2 rfl ?_)
   subst hR
   refine ie (A8 ?_)
   exact G0 hr hD
  have j:=bU i
  refine A4 (nx (A0 2 rfl (zrg 2 0 [0,1] [] [bx n (C0 (bB.getD d Cel.zero)) 37,bx h (C0 (bB.getD d Cel.zero)) 37,bx l [.slice aZ bB.length bA,bv bC] 34] (A3 (nx (A0 2 rfl (ix rfl (B4 rfl rfl rfl rfl opx) (bO 1 19 rfl (A3 ?_)))))))))
  exact A0d (z1:=(d,last)) (d+1,bB.getD d Cel.zero) ⟨opx,hR⟩ olr bQ A9.refl
 have f:=bU o
 rw [A2g f] at hR;replace hR:=(O1.eq_1 ..).symm.trans hR
 refine G6 (nx (A5 (bN rfl (cE 3 [0] 51 rfl ?_))))
 refine ie ?_
 refine zjd rfl hR ?_ ?_<;>clear hR<;>intro hR t p
 ·refine bN rfl (bO 1 2 rfl ?_)
  subst hR
  refine ie (A8 ?_)
  exact G0 hr hD
 refine A4 (nx (bN rfl (bO 1 2 rfl ?_)))
 subst hR
 refine ie (A8 ?_)
 exact G0 hr hD
theorem F3x:EqT Tryz.prog 35 B6n:=EqT.of 20 rfl oki oki (fun _ _=>by kernel_rfl) B6n.inj
def A1g (c:Cel):Bool :=
 ((decide (c.wide=0))&&(decide (c.marks=Ar2.zero)))
theorem C3h {c:Cel} {R:Bool} (hR:A1g c=R):J5 Tryz.prog 83 [ag (C0 c)] [] (bv R):=by
 refine bZ Tryz.func83 fun X hX hr hD=>?_
 replace hR:=(A1g.eq_1 ..).symm.trans hR
 refine bN rfl (zra 2 [] (fun d=>[(1,pt d 0)]) (fun _=>(C0 c)) 37 fun d=>(ie (bN rfl (cE 4 [0] 6 rfl ?_))))
 refine zid 5 1 6 11 (decide (c.marks=Ar2.zero)) (fun e f=>?_) ?_
 ·refine bY 3 2 [0] [(8,ag (B6n c.marks)),(9,ag (B6n Ar2.zero))] (ix rfl (C0c (a:=c.marks) (b:=Ar2.zero) F3x rfl rfl rfl) (bO 1 11 rfl ?_))
  exact A3 (O6 5 6 11 e bT bQ rfl rfl rfl rfl rfl)
 refine bO 1 2 rfl ?_
 subst hR
 refine ie (A8 ?_)
 exact G0 hr hD
structure Prn where
 sign:Cel
 many:Int
 at_:Int
 til:Int
deriving DecidableEq
def F0 (x:Prn):List Value:=C0 x.sign++([.int .i64 x.many,.int .i64 x.at_,.int .i64 x.til])
def Prn.zero:Prn:=⟨Cel.zero,0,0,0⟩
theorem F0.inj (x y:Prn) (h:F0 x=F0 y):x=y:=by
 rcases x with ⟨⟨_,⟨_,_⟩,_,⟨_,_,⟨_,_⟩,⟨_,_⟩,⟨_,_⟩⟩⟩,_,_,_⟩
 rcases y with ⟨⟨_,⟨_,_⟩,_,⟨_,_,⟨_,_⟩,⟨_,_⟩,⟨_,_⟩⟩⟩,_,_,_⟩
 simp [B6n,C0,P0,F0,B3,bs] at h
 simp_all
theorem E6i {c0 c1:Int} {c2:List Cel} {r:Prn} (d:(∀ c ∈ c2,0≤c.wide∧c.wide≤2)∧c2.length≤80∧0≤c0∧c1≤c2.length) (h:r.til<c1∧c2.getD r.til.toNat Cel.zero=r.sign) (e:0≤r.til):0≤r.sign.wide∧r.sign.wide≤2:=by
 have a:r.til.toNat<c2.length:=by omega
 have b:=h.2
 rw [gdE a] at b
 rw [← b];exact d.1 _ (List.getElem_mem a)
def I5 (l:List Cel) (from_:Int) (to_:Int):Int×Int×List Cel :=
 (from_,to_,l)
theorem D5o {l:List Cel} {from_ to_:Int} {lq:Option Addr} {lk:Nat} {R:Int×Int×List Cel} (hR:I5 l from_ to_=R) (d:l.length≤9223372036854775807:=by exact bP) (e:l.length≤lk:=by exact bP):cI Tryz.prog 14 [.slice lq l.length lk,iv from_,iv to_] [] [sl C0 lq l] (Nat×Addr×Addr×{t:Option Addr×Nat // R.2.2.length≤t.2∧R.2.2.length≤9223372036854775807}) (fun x=>.func (.func 27) #[] #[pt x.1 0,pa x.2.1,pa x.2.2.1]) (fun x=>[bx x.1 [iv R.1] 3]) (fun x=>[at_ x.2.1 [iv R.2.1],at_ x.2.2.1 [.slice x.2.2.2.1.1 R.2.2.length x.2.2.2.1.2],sl C0 x.2.2.2.1.1 R.2.2]):=by
 refine bZ Tryz.func14 fun X hX hr hD=>?_
 replace hR:=(I5.eq_1 ..).symm.trans hR
 refine bN rfl (it rfl (A2t (cs:=[.slice lq l.length lk]) rfl rfl rfl) fun c=>?_)
 refine A6m 0 rfl ?_
 refine zra 1 [] (fun a=>[(4,pt a 0)]) (fun _=>[iv from_]) 3 fun a=>?_
 refine it rfl (A2t (cs:=[iv to_]) rfl rfl rfl) fun b=>?_
 refine A6m 0 rfl ?_
 refine pp0 1 rfl (ie (bN rfl (ip' 2 0 [(6,.func (.func 27) #[] #[pt a 0,pa ⟨b,0,none⟩,pa ⟨c,0,none⟩])] ?_)))
 subst hR
 refine ie (A8 ?_)
 exact cD hr hD (N4 rfl (B0 rfl)) (a,⟨b,0,none⟩,⟨c,0,none⟩,(zq lq lk)) bQ c9
end Go.Proofs.YtfcdnnheppnbaaaGreatDoor
