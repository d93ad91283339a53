import Derived.Test.YtgimbmncdmnklaaGreatDoorProg
import Derived.Test.YtgimbmncdmnklaaGreatDoorMA2
import Derived.Test.YtgimbmncdmnklaaGreatDoorMB1
import Derived.Test.YtgimbmncdmnklaaGreatDoorMA3
import Derived.Test.YtgimbmncdmnklaaGreatDoorMB2
import Derived.Test.YtgimbmncdmnklaaGreatDoorMB3
set_option linter.unusedVariables false
set_option linter.unusedSimpArgs false
set_option linter.unnecessarySimpa false
set_option maxRecDepth 100000
namespace Go.Proofs.YtgimbmncdmnklaaGreatDoor
open Go Go.Fen
theorem E3y:ApTy Tryz.prog 70 73 12 96:=⟨by kernel_rfl,by kernel_rfl,rfl⟩
theorem F2s:ApTy Tryz.prog 116 4 1 1:=⟨by kernel_rfl,by kernel_rfl,rfl⟩
theorem A1g:SlTy Tryz.prog 70 73 12:=⟨by kernel_rfl,by kernel_rfl⟩
theorem F3f:SlTy Tryz.prog 116 4 1:=⟨by kernel_rfl,by kernel_rfl⟩
theorem D2l:Ty Tryz.prog 73 12 true:=⟨by kernel_rfl⟩
theorem E8d:Ty Tryz.prog 87 2 true:=⟨by kernel_rfl⟩
theorem F3y:Ty Tryz.prog 115 13 true:=⟨by kernel_rfl⟩
theorem F5w:Zero Tryz.prog 4 [bv false]:=⟨by kernel_rfl⟩
theorem F2c:Zero Tryz.prog 73 (D8 Cel.zero):=⟨by kernel_rfl⟩
structure Cur where
 row:Int
 col:Int
 wrap:Bool
deriving DecidableEq
def H4 (x:Cur):List Value:=[.int .i64 x.row,.int .i64 x.col,.bool x.wrap]
def Cur.zero:Cur:=⟨0,0,false⟩
theorem H4.inj (x y:Cur) (h:H4 x=H4 y):x=y:=by
 rcases x with ⟨_,_,_⟩
 rcases y with ⟨_,_,_⟩
 simp [H4,bs] at h
 simp_all
structure Pth where
 frm:Cur
 to_:Plc
deriving DecidableEq
def M1 (x:Pth):List Value:=H4 x.frm++(S8 x.to_)
def Pth.zero:Pth:=⟨Cur.zero,Plc.zero⟩
theorem M1.inj (x y:Pth) (h:M1 x=M1 y):x=y:=by
 rcases x with ⟨⟨_,_,_⟩,⟨_,_⟩⟩
 rcases y with ⟨⟨_,_,_⟩,⟨_,_⟩⟩
 simp [H4,S8,M1,bs] at h
 simp_all
structure Ar4 where
 a:Int
 b:Int
 c:Int
 d:Int
deriving DecidableEq
def D5j (x:Ar4):List Value:=[.int .i64 x.a,.int .i64 x.b,.int .i64 x.c,.int .i64 x.d]
def Ar4.zero:Ar4:=⟨0,0,0,0⟩
theorem D5j.inj (x y:Ar4) (h:D5j x=D5j y):x=y:=by
 rcases x with ⟨_,_,_,_⟩
 rcases y with ⟨_,_,_,_⟩
 simp [D5j,bs] at h
 simp_all
structure Sts where
 g:Ar4
 used:Int
 once:Int
deriving DecidableEq
def D2a (x:Sts):List Value:=D5j x.g++([.int .i64 x.used,.int .i64 x.once])
def Sts.zero:Sts:=⟨Ar4.zero,0,0⟩
theorem D2a.inj (x y:Sts) (h:D2a x=D2a y):x=y:=by
 rcases x with ⟨⟨_,_,_,_⟩,_,_⟩
 rcases y with ⟨⟨_,_,_,_⟩,_,_⟩
 simp [D5j,D2a,bs] at h
 simp_all
structure Mod where
 insert:Bool
 newline:Bool
 cursorKeys:Bool
 inverse:Bool
 origin:Bool
 auto:Bool
 visible:Bool
 paste:Bool
 focus:Bool
 sync:Bool
 keypad:Bool
 mouse:Int
 mouseSgr:Bool
deriving DecidableEq
def C5u (x:Mod):List Value:=[.bool x.insert,.bool x.newline,.bool x.cursorKeys,.bool x.inverse,.bool x.origin,.bool x.auto,.bool x.visible,.bool x.paste,.bool x.focus,.bool x.sync,.bool x.keypad,.int .i64 x.mouse,.bool x.mouseSgr]
def Mod.zero:Mod:=⟨false,false,false,false,false,false,false,false,false,false,false,0,false⟩
theorem C5u.inj (x y:Mod) (h:C5u x=C5u y):x=y:=by
 rcases x with ⟨_,_,_,_,_,_,_,_,_,_,_,_,_⟩
 rcases y with ⟨_,_,_,_,_,_,_,_,_,_,_,_,_⟩
 simp [C5u,bs] at h
 simp_all
structure Sav where
 is_:Bool
 cursor:Cur
 style:Sty
 sets:Sts
 origin:Bool
deriving DecidableEq
def C8b (x:Sav):List Value:=[.bool x.is_]++(H4 x.cursor++(D6 x.style++(D2a x.sets++([.bool x.origin]))))
def Sav.zero:Sav:=⟨false,Cur.zero,Sty.zero,Sts.zero,false⟩
theorem C8b.inj (x y:Sav) (h:C8b x=C8b y):x=y:=by
 rcases x with ⟨_,⟨_,_,_⟩,⟨_,_,⟨_,_⟩,⟨_,_⟩,⟨_,_⟩⟩,⟨⟨_,_,_,_⟩,_,_⟩,_⟩
 rcases y with ⟨_,⟨_,_,_⟩,⟨_,_,⟨_,_⟩,⟨_,_⟩,⟨_,_⟩⟩,⟨⟨_,_,_,_⟩,_,_⟩,_⟩
 simp [D5j,U2,H4,C8b,D2a,D6,bs] at h
 simp_all
structure Pln where
 cols:Int
 rows:Int
 top:Int
 bottom:Int
 shape:Int
 last:Int
 onAlt:Bool
 cursor:Cur
 style:Sty
 sets:Sts
 modes:Mod
 kept:Sav
 keptAlt:Sav
 title:List UInt8
deriving DecidableEq
def E9r (x:Pln):List Value:=[.int .i64 x.cols,.int .i64 x.rows,.int .i64 x.top,.int .i64 x.bottom,.int .i64 x.shape,.int .i64 x.last,.bool x.onAlt]++(H4 x.cursor++(D6 x.style++(D2a x.sets++(C5u x.modes++(C8b x.kept++(C8b x.keptAlt++([.string (bs x.title)])))))))
def Pln.zero:Pln:=⟨0,0,0,0,0,0,false,Cur.zero,Sty.zero,Sts.zero,Mod.zero,Sav.zero,Sav.zero,[]⟩
theorem E9r.inj (x y:Pln) (h:E9r x=E9r y):x=y:=by
 rcases x with ⟨_,_,_,_,_,_,_,⟨_,_,_⟩,⟨_,_,⟨_,_⟩,⟨_,_⟩,⟨_,_⟩⟩,⟨⟨_,_,_,_⟩,_,_⟩,⟨_,_,_,_,_,_,_,_,_,_,_,_,_⟩,⟨_,⟨_,_,_⟩,⟨_,_,⟨_,_⟩,⟨_,_⟩,⟨_,_⟩⟩,⟨⟨_,_,_,_⟩,_,_⟩,_⟩,⟨_,⟨_,_,_⟩,⟨_,_,⟨_,_⟩,⟨_,_⟩,⟨_,_⟩⟩,⟨⟨_,_,_,_⟩,_,_⟩,_⟩,_⟩
 rcases y with ⟨_,_,_,_,_,_,_,⟨_,_,_⟩,⟨_,_,⟨_,_⟩,⟨_,_⟩,⟨_,_⟩⟩,⟨⟨_,_,_,_⟩,_,_⟩,⟨_,_,_,_,_,_,_,_,_,_,_,_,_⟩,⟨_,⟨_,_,_⟩,⟨_,_,⟨_,_⟩,⟨_,_⟩,⟨_,_⟩⟩,⟨⟨_,_,_,_⟩,_,_⟩,_⟩,⟨_,⟨_,_,_⟩,⟨_,_,⟨_,_⟩,⟨_,_⟩,⟨_,_⟩⟩,⟨⟨_,_,_,_⟩,_,_⟩,_⟩,_⟩
 simp [D5j,U2,H4,C5u,E9r,C8b,D2a,D6,bs] at h
 simp_all
structure ScrC where
 cols:Int
 rows:Int
 onAlt:Bool
 cursor:Cur
 style:Sty
 sets:Sts
 modes:Mod
 top:Int
 bottom:Int
 kept:Sav
 keptAlt:Sav
 shape:Int
 title:List UInt8
 last:Int
deriving DecidableEq
def E2s (x:ScrC):List Value:=[.int .i64 x.cols,.int .i64 x.rows,.bool x.onAlt]++(H4 x.cursor++(D6 x.style++(D2a x.sets++(C5u x.modes++([.int .i64 x.top,.int .i64 x.bottom]++(C8b x.kept++(C8b x.keptAlt++([.int .i64 x.shape,.string (bs x.title),.int .i64 x.last]))))))))
def ScrC.zero:ScrC:=⟨0,0,false,Cur.zero,Sty.zero,Sts.zero,Mod.zero,0,0,Sav.zero,Sav.zero,0,[],0⟩
theorem E2s.inj (x y:ScrC) (h:E2s x=E2s y):x=y:=by
 rcases x with ⟨_,_,_,⟨_,_,_⟩,⟨_,_,⟨_,_⟩,⟨_,_⟩,⟨_,_⟩⟩,⟨⟨_,_,_,_⟩,_,_⟩,⟨_,_,_,_,_,_,_,_,_,_,_,_,_⟩,_,_,⟨_,⟨_,_,_⟩,⟨_,_,⟨_,_⟩,⟨_,_⟩,⟨_,_⟩⟩,⟨⟨_,_,_,_⟩,_,_⟩,_⟩,⟨_,⟨_,_,_⟩,⟨_,_,⟨_,_⟩,⟨_,_⟩,⟨_,_⟩⟩,⟨⟨_,_,_,_⟩,_,_⟩,_⟩,_,_,_⟩
 rcases y with ⟨_,_,_,⟨_,_,_⟩,⟨_,_,⟨_,_⟩,⟨_,_⟩,⟨_,_⟩⟩,⟨⟨_,_,_,_⟩,_,_⟩,⟨_,_,_,_,_,_,_,_,_,_,_,_,_⟩,_,_,⟨_,⟨_,_,_⟩,⟨_,_,⟨_,_⟩,⟨_,_⟩,⟨_,_⟩⟩,⟨⟨_,_,_,_⟩,_,_⟩,_⟩,⟨_,⟨_,_,_⟩,⟨_,_,⟨_,_⟩,⟨_,_⟩,⟨_,_⟩⟩,⟨⟨_,_,_,_⟩,_,_⟩,_⟩,_,_,_⟩
 simp [D5j,U2,H4,C5u,C8b,E2s,D2a,D6,bs] at h
 simp_all
def A3p (x:ScrC) (c d b a:Slc):List Value:=[.int .i64 x.cols,.int .i64 x.rows,.slice c.q c.n c.k,.slice d.q d.n d.k,.bool x.onAlt,.slice b.q b.n b.k]++(H4 x.cursor++(D6 x.style++(D2a x.sets++(C5u x.modes++([.int .i64 x.top,.int .i64 x.bottom,.slice a.q a.n a.k]++(C8b x.kept++(C8b x.keptAlt++([.int .i64 x.shape,.string (bs x.title),.int .i64 x.last]))))))))
structure FrmC where
 cols:Int
 cursor:Plc
 visible:Bool
 shape:Int
 title:List UInt8
deriving DecidableEq
def E2e (x:FrmC):List Value:=[.int .i64 x.cols]++(S8 x.cursor++([.bool x.visible,.int .i64 x.shape,.string (bs x.title)]))
def FrmC.zero:FrmC:=⟨0,Plc.zero,false,0,[]⟩
theorem E2e.inj (x y:FrmC) (h:E2e x=E2e y):x=y:=by
 rcases x with ⟨_,⟨_,_⟩,_,_,_⟩
 rcases y with ⟨_,⟨_,_⟩,_,_,_⟩
 simp [E2e,S8,bs] at h
 simp_all
def C2 (x:FrmC) (a:Slc):List Value:=[.int .i64 x.cols,.slice a.q a.n a.k]++(S8 x.cursor++([.bool x.visible,.int .i64 x.shape,.string (bs x.title)]))
def B3o:Mod :=
 {Mod.zero with auto:=true,visible:=true}
theorem E1x {R:Mod} (hR:B3o=R):J5 Tryz.prog 83 [] [] (ag (C5u R)):=by
 refine cC Tryz.func83 fun X hX hr hD=>?_
 replace hR:=(B3o.eq_1 ..).symm.trans hR
 refine bS rfl (zra 1 [] (fun a=>[(0,pt a 0)]) (fun _=>(C5u Mod.zero)) 115 fun a=>(ie (bS rfl (zru 2 [0] [] 0 (bx a (C5u ({Mod.zero with auto:=true,visible:=true})) 115) ?_))))
 subst hR
 refine ie (A8 ?_)
 exact cD hr hD (K7 rfl (F0 F3y rfl 0 rfl rfl rfl)) () bU bX
def A8t (a:Int):Nat→List Bool→Nat→(List Bool×Int)
 | 0,_,_=>([],0)
 | fu1+1,t,k=>(bif (decide ((k:Int)<a)) then A8t a fu1 (t.set k true) (k+8) else (t,0))
def B9j (a:Int):List Bool×Int :=
 (bif ((decide (a<2))||(decide ((80:Int)<a))) then (([]:List Bool),2) else A8t a ((a - (8:Int)).toNat+1) (List.replicate ((a).toNat) false) 8)
theorem E1p {a:Int} {R:List Bool×Int} (hR:B9j a=R):Con Tryz.prog 82 [iv a] [] [] ({r:VR // bT 1 R.1.length r}) (fun x=>.tuple #[.slice (va x.1.q) R.1.length x.1.k,iv R.2]) (fun x=>((vo A8z 4 x.1 R.1)++([]))) (fun x=>[]):=by
 refine cC Tryz.func82 fun X hX hr hD=>?_
 replace hR:=(B9j.eq_1 ..).symm.trans hR
 refine bS rfl (pp0 2 rfl (ie (A3 (bS rfl (bP 3 8 rfl ?_)))))
 refine zir 3 0 8 11 (decide (80<a)) (fun n j=>?_) ?_
 ·refine bP 3 11 rfl ?_
  exact A2 (J0 2 8 _ n bX bU rfl rfl rfl rfl rfl)
 refine ie ?_
 refine zjo rfl hR ?_ ?_<;>clear hR<;>intro hR y w
 ·refine bS rfl (cG 2 2 3 rfl ?_)
  subst hR
  refine ie (A8 ?_)
  exact cD hr hD (U0 rfl (A6 rfl) (A6 rfl)) ⟨_,bT.nil⟩ bU bX
 refine A4 (nx (bS rfl (bP 1 12 rfl (it rfl (C3v (f:=A8z) (l:=(a).toNat) (c:=(a).toNat) false F2s F5w.ok (fun _=>rfl) rfl (by exact congrArg (fun z=>some (Value.int .i64 z)) (show a=(((a).toNat:Nat):Int) by omega)) (by exact congrArg (fun z=>some (Value.int .i64 z)) (show a=(((a).toNat:Nat):Int) by omega)) opx ofv opx) fun ⟨o,e⟩=>?_))))
 have:(List.replicate ((a).toNat) false).length=((a).toNat):=List.length_replicate
 have:=bT.le e
 refine bP 1 4 rfl (ie (A3 (bS rfl (bP 1 5 rfl (ie (A9 ?_))))))
 refine A3q (un fun fu=>un fun t=>un fun d (k:Nat)=>((a - k).toNat<fu∧A8t a fu t k=R∧bT 1 t.length d∧t.length=a.toNat,[(0,_),(4,.slice (va d.q) t.length d.k),(5,iv k)],((vo _ 4 d t)++([])),_,fu)) (_,_,o,8) ⟨(Nat.lt_succ_self _),hR,e,(by exact List.length_replicate)⟩ bU bX ?_
 rintro ⟨fu,t,d,k⟩ ⟨s,hR,b,u⟩
 obtain ⟨fu1,rfl⟩:∃ m,fu=m+1:=⟨fu - 1,by omega⟩
 replace hR:=(A8t.eq_2 ..).symm.trans hR
 refine A3 (bS rfl (bP 3 16 rfl ?_))
 refine ie ?_
 refine zjd rfl hR ?_ ?_<;>clear hR<;>intro hR h6 v
 ·refine A4 (nx (A3 (A9 (A1 4 rfl (cG 2 19 20 rfl ?_)))))
  obtain ⟨b7,i⟩:=bT.some b opx
  obtain ⟨p,g,h⟩:=d
  obtain rfl:p=some b7:=i
  refine ix rfl (A1k F3f rfl rfl rfl k rfl opx) (it rfl (A5x (us:=[bv true]) (u':=true) (c:=A8z) (sz:=1) ty4 (fun _=>rfl) rfl rfl rfl 0 rfl rfl rfl rfl k 0 rfl (gd false opx) rfl rfl) fun _=>?_)
  refine A2 (nx (A1 3 rfl (bP 1 17 rfl (ix rfl (B3 rfl rfl rfl rfl opx) (bP 1 5 rfl (A2 ?_))))))
  exact A2g (_,_,_,_) ⟨opx,hR,(bT.cast b oom),(by (rw [List.length_set];exact u))⟩ (Nat.lt_succ_self _) bU bX
 refine F4 (nx (bS rfl (cG 3 2 3 rfl ?_)))
 subst hR
 refine ie (A8 ?_)
 exact cD hr hD (U0 rfl (A6 rfl) (A6 rfl)) ⟨d,b⟩ bU bX
def B3i (s:Sty):Cel :=
 {Cel.zero with base:=32,sty:=s}
theorem D9q {s:Sty} {R:Cel} (hR:B3i s=R):J5 Tryz.prog 227 [ag (D6 s)] [] (ag (D8 R)):=by
 refine cC Tryz.func227 fun X hX hr hD=>?_
 replace hR:=(B3i.eq_1 ..).symm.trans hR
 refine bS rfl (B6z 2 [] (fun a b=>[(1,pt a 0),(2,pt b 0)]) (fun _ _=>(D6 s)) (fun _ _=>(D8 Cel.zero)) 65 73 fun a b=>(ie (bS rfl (zrg 3 0 [1,0] [] [bx b (D8 ({Cel.zero with base:=32,sty:=s})) 73,bx a (D6 s) 65] ?_))))
 subst hR
 refine ie (A8 ?_)
 exact cD hr hD (K7 rfl (F0 D2l rfl 0 rfl rfl rfl)) () bU bX
def B2m (x:Int) (y:Int):Int×Int :=
 ((IntKind.u64.wrap ((IntKind.u64.wrap ((IntKind.u64.wrap ((x / 4294967296) * (y / 4294967296)))+((IntKind.u64.wrap ((IntKind.u64.wrap ((x / 4294967296) * (bOp .and .u64 y 4294967295)))+((IntKind.u64.wrap ((bOp .and .u64 x 4294967295) * (bOp .and .u64 y 4294967295))) / 4294967296))) / 4294967296)))+((IntKind.u64.wrap ((bOp .and .u64 (IntKind.u64.wrap ((IntKind.u64.wrap ((x / 4294967296) * (bOp .and .u64 y 4294967295)))+((IntKind.u64.wrap ((bOp .and .u64 x 4294967295) * (bOp .and .u64 y 4294967295))) / 4294967296))) 4294967295)+(IntKind.u64.wrap ((bOp .and .u64 x 4294967295) * (y / 4294967296))))) / 4294967296))),(IntKind.u64.wrap (x * y)))
theorem C3r {x y:Int} {R:Int×Int} (hR:B2m x y=R):J5 Tryz.prog 264 [.int .u64 x,.int .u64 y] [] (.tuple #[.int .u64 R.1,.int .u64 R.2]):=by
 refine cC Tryz.func264 fun X hX hr hD=>?_
 replace hR:=(B2m.eq_1 ..).symm.trans hR
 refine bS rfl (pp0 2 rfl (ie (bS rfl (bP 3 6 rfl (ie (bS rfl (bP 1 16 rfl ?_)))))))
 refine ix rfl (A1s (c:=x / 4294967296) rfl rfl rfl ozw (by simp [Int.fdiv_eq_ediv_of_nonneg,IntKind.bits])) (bP 1 7 rfl (ie (bS rfl (bP 3 8 rfl (ie (bS rfl (bP 1 20 rfl ?_)))))))
 refine ix rfl (A1s (c:=y / 4294967296) rfl rfl rfl ozw (by simp [Int.fdiv_eq_ediv_of_nonneg,IntKind.bits])) (bP 1 9 rfl (ie (bS rfl (bP 4 10 rfl (ie (bS rfl (cG 4 27 28 rfl ?_)))))))
 refine ix rfl (A1s (c:=(IntKind.u64.wrap ((bOp .and .u64 x 4294967295) * (bOp .and .u64 y 4294967295))) / 4294967296) rfl rfl rfl ozw (by simp [Int.fdiv_eq_ediv_of_nonneg,IntKind.bits])) (bP 2 11 rfl (ie (bS rfl (bP 3 12 rfl (ie (bS rfl (bP 1 33 rfl ?_)))))))
 refine ix rfl (A1s (c:=(IntKind.u64.wrap ((IntKind.u64.wrap ((x / 4294967296) * (bOp .and .u64 y 4294967295)))+((IntKind.u64.wrap ((bOp .and .u64 x 4294967295) * (bOp .and .u64 y 4294967295))) / 4294967296))) / 4294967296) rfl rfl rfl ozw (by simp [Int.fdiv_eq_ediv_of_nonneg,IntKind.bits])) (bP 1 13 rfl (ie (bS rfl (bP 6 12 rfl (ie (bS rfl (cG 6 44 45 rfl ?_)))))))
 refine ix rfl (A1s (c:=(IntKind.u64.wrap ((bOp .and .u64 (IntKind.u64.wrap ((IntKind.u64.wrap ((x / 4294967296) * (bOp .and .u64 y 4294967295)))+((IntKind.u64.wrap ((bOp .and .u64 x 4294967295) * (bOp .and .u64 y 4294967295))) / 4294967296))) 4294967295)+(IntKind.u64.wrap ((bOp .and .u64 x 4294967295) * (y / 4294967296))))) / 4294967296) rfl rfl rfl ozw (by simp [Int.fdiv_eq_ediv_of_nonneg,IntKind.bits])) (bP 2 4 rfl (ie (bS rfl (bP 4 5 rfl ?_))))
 subst hR
 refine ie (A8 ?_)
 exact B4w hr hD
def A8d (x:Int) (y:Int):Int×Int :=
 (B6 (B2m x y) fun (a:Int×Int)=>(a.1,a.2))
theorem wr6 {x:Int} (h:-1000000≤x∧x≤1000000):IntKind.i64.wrap x=x:=A3i (by show (-9223372036854775808:Int)≤_;omega) (by show _≤(9223372036854775807:Int);omega)
theorem E6z:∀ c<81,A8d 1 ((c:Nat):Int)=(0,((c:Nat):Int)):=by decide +kernel
theorem E9t (n:Nat) (c:Int) (a:n=1) (b:1≤c∧c≤80):A8d (IntKind.u64.wrap (n:Int)) (IntKind.u64.wrap c)=(0,c):=by
 obtain ⟨m,rfl⟩:∃ m:Nat,c=m:=⟨c.toNat,by omega⟩
 subst a
 rw [A3i (k:=.u64) (by show (0:Int)≤_;omega) (by show _≤(18446744073709551615:Int);omega),A3i (k:=.u64) (by show (0:Int)≤_;omega) (by show _≤(18446744073709551615:Int);omega)]
 exact E6z m opx
theorem C7o {x y:Int} {R:Int×Int} (hR:A8d x y=R):J5 Tryz.prog 248 [.int .u64 x,.int .u64 y] [] (.tuple #[.int .u64 R.1,.int .u64 R.2]):=by
 refine cC Tryz.func248 fun X hX hr hD=>?_
 replace hR:=(A8d.eq_1 ..).symm.trans hR
 refine bS rfl (pp0 2 rfl (ie (A3 (A4r rfl (A4 (nx (bS rfl (cG 2 23 24 rfl ?_))))))))
 have b:=C4 hR;clear hR;obtain ⟨c,a,hR⟩:=b
 refine zv rfl (C3r a) (cG 5 8 9 rfl (ie (bS rfl (cG 4 4 5 rfl ?_))))
 subst hR
 refine ie (A8 ?_)
 exact B4w hr hD
def R3:Nat→List Cel→Nat→List Cel
 | 0,_,_=>[]
 | fu1+1,newslice,n=>(bif (decide ((n:Int)<(newslice.length:Int))) then R3 fu1 (newslice.take n++(newslice.take (min n (newslice.length - n):Nat)++newslice.drop (n+(min n (newslice.length - n):Nat)))) (n+(min n (newslice.length - n):Nat)) else newslice)
def A0f (x:List Cel) (count:Int):List Cel :=
 (B6 (A8d (IntKind.u64.wrap (x.length:Int)) (IntKind.u64.wrap count)) fun (a:Int×Int)=>R3 (((x.take (List.replicate ((IntKind.i64.wrap a.2).toNat) Cel.zero).length++(List.replicate ((IntKind.i64.wrap a.2).toNat) Cel.zero).drop x.length).length - (min x.length (List.replicate ((IntKind.i64.wrap a.2).toNat) Cel.zero).length:Nat))+1) (x.take (List.replicate ((IntKind.i64.wrap a.2).toNat) Cel.zero).length++(List.replicate ((IntKind.i64.wrap a.2).toNat) Cel.zero).drop x.length) (min x.length (List.replicate ((IntKind.i64.wrap a.2).toNat) Cel.zero).length:Nat))
theorem ort {p:Prop} (h:p:=by (constructor<;>first|omega|(simp only [List.length_append,List.length_take,List.length_drop,List.length_replicate]<;>omega))):p:=h
theorem A9m {x:List Cel} {count:Int} {xq:Option Addr} {xk:Nat} {R:List Cel} (hR:A0f x count=R) (w:x.length≤9223372036854775807:=by exact bW) (y:x.length≤xk:=by exact bW) (p:1≤count∧count≤80:=by exact bW) (v:x.length=1:=by exact bW):Con Tryz.prog 226 [.slice xq x.length xk,iv count] [] [sl D8 xq x] ({r:VR // bT 12 R.length r}) (fun x=>.slice (va x.1.q) R.length x.1.k) (fun x=>((vo D8 73 x.1 R)++([]))) (fun x=>[]):=by
 refine cC Tryz.func226 fun X hX hr hD=>?_
 replace hR:=(A0f.eq_1 ..).symm.trans hR
 refine bS rfl (pp0 1 rfl (ie (A3 (bS rfl (bP 2 10 rfl ?_)))))
 refine ie (G4 rfl (fun s=>?_) (fun s=>?_))
 ·have u:=bV s
  exfalso;omega
 have u:=bV s
 refine A4 (nx (bS rfl (cG 5 15 17 rfl ?_)))
 have hQ:=C4 hR;clear hR;obtain ⟨d,j,hR⟩:=hQ
 refine zv rfl (C7o j) ?_
 have:=E9t x.length count v p;try rw [j] at this
 have a4:d.1=0:=by rw [this]
 have a5:IntKind.i64.wrap d.2=count:=by rw [this];exact wr6 (by show -1000000≤count∧count≤1000000;omega)
 have a3:d.2=count:=by rw [this]
 refine cG 5 5 6 rfl (ie (A3 (bS rfl (bP 3 23 rfl ?_))))
 refine zir 3 0 23 26 (decide (9223372036854775807<d.2)) (fun g2 a7=>?_) ?_
 ·refine bP 3 26 rfl ?_
  exact zai 2 23 _ g2
 refine ie (G4 rfl (fun o=>?_) (fun o=>?_))
 ·have t:=bV o
  exfalso;simp only [Bool.or_eq_true,decide_eq_true_eq] at o;omega
 have t:=bV o
 refine A4 (nx (bS rfl (bP 2 29 rfl (it rfl (C3v (f:=D8) (l:=(IntKind.i64.wrap d.2).toNat) (c:=(IntKind.i64.wrap d.2).toNat) Cel.zero E3y F2c.ok (fun _=>rfl) rfl (by exact congrArg (fun z=>some (Value.int .i64 z)) (show (IntKind.i64.wrap d.2)=(((IntKind.i64.wrap d.2).toNat:Nat):Int) by omega)) (by exact congrArg (fun z=>some (Value.int .i64 z)) (show (IntKind.i64.wrap d.2)=(((IntKind.i64.wrap d.2).toNat:Nat):Int) by omega)) opx ofv opx) fun ⟨r4,e⟩=>?_))))
 have:(List.replicate ((IntKind.i64.wrap d.2).toNat) Cel.zero).length=((IntKind.i64.wrap d.2).toNat):=List.length_replicate
 have:=bT.le e
 have:=bT.cap e
 have:(List.replicate ((IntKind.i64.wrap d.2).toNat) Cel.zero).length=((IntKind.i64.wrap d.2).toNat):=List.length_replicate
 refine bP 1 7 rfl (ie (bS rfl (cG 2 31 32 rfl ?_)))
 have g:bT 12 (x.take (List.replicate ((IntKind.i64.wrap d.2).toNat) Cel.zero).length++(List.replicate ((IntKind.i64.wrap d.2).toNat) Cel.zero).drop x.length).length r4:=by rw [show (x.take (List.replicate ((IntKind.i64.wrap d.2).toNat) Cel.zero).length++(List.replicate ((IntKind.i64.wrap d.2).toNat) Cel.zero).drop x.length).length=(List.replicate ((IntKind.i64.wrap d.2).toNat) Cel.zero).length by simp only [List.length_append,List.length_take,List.length_drop];omega];exact e
 refine it rfl (E3z (f:=D8) (r:=r4) (xs:=(List.replicate ((IntKind.i64.wrap d.2).toNat) Cel.zero)) (ys:=x) (pre:=[]) (post:=[]) A1g (fun _=>rfl) (fun _=>rfl) rfl rfl rfl rfl rfl rfl rfl rfl (A5 0 rfl) e) fun _=>?_
 refine bP 1 8 rfl (ie (A3 (A9 ?_)))
 refine A3q (un fun (fu:Nat)=>un fun (a:List Cel)=>un fun (newslicer:VR) (n:Nat)=>((a.length - n)<fu∧R3 fu a n=R∧bT 12 a.length newslicer∧(a.length=count.toNat∧1≤n),[(7,.slice (va newslicer.q) a.length newslicer.k),(8,iv (n:Int))],((vo D8 73 newslicer a)++([])),[sl D8 xq x],fu)) ((((x.take (List.replicate ((IntKind.i64.wrap d.2).toNat) Cel.zero).length++(List.replicate ((IntKind.i64.wrap d.2).toNat) Cel.zero).drop x.length).length - (min x.length (List.replicate ((IntKind.i64.wrap d.2).toNat) Cel.zero).length:Nat))+1),x.take (List.replicate ((IntKind.i64.wrap d.2).toNat) Cel.zero).length++(List.replicate ((IntKind.i64.wrap d.2).toNat) Cel.zero).drop x.length,r4,(min x.length (List.replicate ((IntKind.i64.wrap d.2).toNat) Cel.zero).length:Nat)) ⟨(Nat.lt_succ_self _),hR,g,ort⟩ bU A7.refl (hE:=⟨(show some (Value.slice (va r4.q) ((List.replicate ((IntKind.i64.wrap d.2).toNat) Cel.zero).length) r4.k)=some (Value.slice (va r4.q) ((x.take (List.replicate ((IntKind.i64.wrap d.2).toNat) Cel.zero).length++(List.replicate ((IntKind.i64.wrap d.2).toNat) Cel.zero).drop x.length).length) r4.k) from congrArg (fun z=>some (Value.slice (va r4.q) z r4.k)) (show (List.replicate ((IntKind.i64.wrap d.2).toNat) Cel.zero).length=(x.take (List.replicate ((IntKind.i64.wrap d.2).toNat) Cel.zero).length++(List.replicate ((IntKind.i64.wrap d.2).toNat) Cel.zero).drop x.length).length by first|rfl|omega|(simp only [List.length_append,List.length_take,List.length_drop,List.length_replicate,List.length_set];omega))),(by first|rfl|exact congrArg (fun z=>some (Value.slice _ z _)) (by first|omega|(simp only [List.length_append,List.length_take,List.length_drop,List.length_replicate];omega))),trivial⟩) ?_
 rintro ⟨fu,a,newslicer,n⟩ ⟨a6,hR,b,hn⟩
 have:=bT.le b
 obtain ⟨fu1,rfl⟩:∃ m,fu=m+1:=⟨fu - 1,by omega⟩
 replace hR:=(R3.eq_2 ..).symm.trans hR
 refine A3 (bS rfl (bP 4 37 rfl ?_))
 refine ie ?_
 refine zjd rfl hR ?_ ?_<;>clear hR<;>intro hR h8 a1
 ·refine A4 (nx (A9 ?_))
  refine zSn [(7,[0])] ?_
  refine hq5 [0,1,2,4,5] 38 39 40 42 43 rfl ?_
  have:=bT.cap b
  refine gk 3 rfl (B1k A1g rfl rfl n _ _ (A0w rfl rfl) A1u A1u opx opx (Nat.le_refl _) rfl rfl) ?_
  have:=bT.cap b
  refine gk 6 rfl (B7b A1g rfl rfl n _ (A0w rfl rfl) A1u opx (Nat.le_refl _) rfl rfl) ?_
  have i:bT 12 (a.take n++(a.take (min n (a.length - n):Nat)++a.drop (n+(min n (a.length - n):Nat)))).length newslicer:=by rw [show (a.take n++(a.take (min n (a.length - n):Nat)++a.drop (n+(min n (a.length - n):Nat)))).length=a.length by simp only [List.length_append,List.length_take,List.length_drop];omega];exact b
  refine go 7 [] rfl (E5d (f:=D8) (r:=newslicer) (xs:=a) (l:=n) (h:=n) (pre:=[]) (post:=[]) A1g (fun _=>rfl) (fun _=>rfl) rfl rfl rfl rfl rfl rfl rfl b opx opx) fun _=>?_
  refine gk 8 rfl (B3 rfl rfl rfl rfl opx) ?_
  refine hq1 [9] 8 rfl ?_
  refine gdn ?_
  exact A2g (z1:=(fu1+1,a,newslicer,n)) (fu1,(a.take n++(a.take (min n (a.length - n):Nat)++a.drop (n+(min n (a.length - n):Nat)))),newslicer,(n+(min n (a.length - n):Nat))) ⟨(by simp only [List.length_append,List.length_take,List.length_drop,List.length_replicate];omega),hR,i,ort⟩ (Nat.lt_succ_self _) bU A7.refl (hE:=⟨(show some (Value.slice (va newslicer.q) a.length newslicer.k)=some (Value.slice (va newslicer.q) ((a.take n++(a.take (min n (a.length - n):Nat)++a.drop (n+(min n (a.length - n):Nat)))).length) newslicer.k) from congrArg (fun z=>some (Value.slice (va newslicer.q) z newslicer.k)) (show a.length=(a.take n++(a.take (min n (a.length - n):Nat)++a.drop (n+(min n (a.length - n):Nat)))).length by first|rfl|omega|(simp only [List.length_append,List.length_take,List.length_drop,List.length_replicate,List.length_set];omega))),(show some (iv ((n:Int)+((min n (a.length - n):Nat):Int)))=some (iv ((n+(min n (a.length - n):Nat)):Int)) by first|rfl|exact congrArg (fun z=>some (Value.int .i64 z)) (by first|rfl|omega|(simp only [List.length_append,List.length_take,List.length_drop,List.length_replicate,List.length_set];omega))),trivial⟩)
 refine F4 (nx (bS rfl (bP 2 4 rfl ?_)))
 subst hR
 refine ie (A8 ?_)
 exact cD hr hD (K7 rfl (A6 rfl)) ⟨_,b⟩ bU bX
def D5m (a:Int) (s:Sty):List Cel×Bool×Int :=
 (bif ((decide (a<2))||(decide ((80:Int)<a))) then (([]:List Cel),false,2) else (bif (!decide ((P0 s)=0)) then (([]:List Cel),false,(P0 s)) else (B6 (A0f ([(B3i s)]:List Cel) a) fun (b:List Cel)=>(b,false,0))))
theorem E4f {a:Int} {s:Sty} {R:List Cel×Bool×Int} (hR:D5m a s=R):Con Tryz.prog 195 [iv a,ag (D6 s)] [] [] ({r:VR // bT 12 R.1.length r}) (fun x=>.tuple #[ag [.slice (va x.1.q) R.1.length x.1.k,bv R.2.1],iv R.2.2]) (fun x=>((vo D8 73 x.1 R.1)++([]))) (fun x=>[]):=by
 refine cC Tryz.func195 fun X hX hr hD=>?_
 replace hR:=(D5m.eq_1 ..).symm.trans hR
 refine bS rfl (B6z 3 [] (fun g d=>[(3,pt g 0),(4,pt d 0)]) (fun _ _=>(D6 s)) (fun _ _=>[.slice none 0 0,bv false]) 65 87 fun g d=>(ie (A3 (bS rfl (bP 3 9 rfl ?_)))))
 refine zir 3 0 9 12 (decide (80<a)) (fun o l=>?_) ?_
 ·refine bP 3 12 rfl ?_
  exact A2 (J0 2 9 _ o bX bU rfl rfl rfl rfl rfl)
 refine ie ?_
 refine zjo rfl hR ?_ ?_<;>clear hR<;>intro hR p n
 ·refine bS rfl (zru 3 [0] [(5,iv 2)] 0 (bx d [.slice none 0 0,bv false] 87) ?_)
  subst hR
  refine ie (A8 ?_)
  exact cD hr hD (U0 rfl (F0 E8d rfl 0 rfl rfl rfl) (A6 rfl)) ⟨_,bT.nil⟩ bU bX
 refine A4 (nx (A3 (bS rfl (c9 1 2 [1] [(14,ag _)] (zv rfl (A5w (s:=s) rfl) (bP 1 6 rfl (ie (bS rfl (bP 2 17 rfl (ie ?_))))))))))
 refine zjn rfl hR ?_ ?_<;>clear hR<;>intro hR t m
 ·refine bS rfl (zru 4 [0] [(5,iv (P0 s))] 0 (bx d [.slice none 0 0,bv false] 87) ?_)
  subst hR
  refine ie (A8 ?_)
  exact cD hr hD (U0 rfl (F0 E8d rfl 0 rfl rfl rfl) (A6 rfl)) ⟨_,bT.nil⟩ bU bX
 refine A4 (nx (bS rfl (c9 1 7 [1] [(20,ag _)] (zv rfl (D9q (s:=s) rfl) (it rfl (B1 (c:=D8) (xs:=[(B3i s)]) A1g rfl rfl rfl oki) fun i=>?_)))))
 have:([(B3i s)]:List Cel).length=1:=rfl
 refine bP 1 23 rfl ?_
 have j:=C4 hR;clear hR;obtain ⟨h,f,hR⟩:=j
 refine zc rfl (A9m (x:=([(B3i s)]:List Cel)) (count:=a) (xq:=(some ⟨i,0,none⟩)) (xk:=1) f bW bW bW (by first|rfl|omega)) fun ⟨e,b⟩=>?_
 refine zru 3 [0] [(5,iv 0)] 0 (bx d [.slice (va e.q) h.length e.k,bv false] 87) ?_
 subst hR
 refine ie (A8 ?_)
 exact cD hr hD (U0 rfl (F0 E8d rfl 0 rfl rfl rfl) (A6 rfl)) _ bU bX
@[reducible] def aG:List Value := (A3p ScrC.zero ⟨none,0,0⟩ ⟨none,0,0⟩ ⟨none,0,0⟩ ⟨none,0,0⟩)
@[reducible] def aE (s:ScrC) (a:Option Addr) (b:List (Rwc Cel)) (c:Nat) (d:Option Addr) (e:List (Rwc Cel)) (f:Nat) (g:Option Addr) (h:List Bool) (i:Nat):List Value := A3p s ⟨a,b.length,c⟩ ⟨d,e.length,f⟩ ⟨none,0,0⟩ ⟨g,h.length,i⟩
theorem F3v:ApTy Tryz.prog 110 87 2 32:=⟨by kernel_rfl,by kernel_rfl,rfl⟩
theorem E5k:SlTy Tryz.prog 110 87 2:=⟨by kernel_rfl,by kernel_rfl⟩
theorem F1a:Ty Tryz.prog 120 80 true:=⟨by kernel_rfl⟩
theorem F1k:Zero Tryz.prog 87 [.slice none 0 0,bv false]:=⟨by kernel_rfl⟩
def A2k (a:Int) (s:Sty):List (Rwc Cel)→List (Rwc Cel)→Nat→List (Rwc Cel)
 | [],l,t13=>l
 | hd_l0::tl_l0,l,t13=>(B6 (D5m a s) fun (b:List Cel×Bool×Int)=>A2k a s tl_l0 (l.set t13 (⟨b.1,b.2.1⟩:Rwc Cel)) (t13+1))
def B1t (b:Int) (a:Int) (s:Sty):List (Rwc Cel) :=
 A2k b s (List.replicate ((a).toNat) (zwc:Rwc Cel)) (List.replicate ((a).toNat) (zwc:Rwc Cel)) 0
theorem oll {p:Prop} (h:p:=by first|rfl|simp only [List.flatten_cons,List.flatten_nil,List.cons_append,List.append_assoc,List.nil_append,List.append_nil]):p:=h
theorem D3p {e a:Int} {s:Sty} {R:List (Rwc Cel)} (hR:B1t e a s=R) (a5:1≤a∧a≤40:=by exact bW) (a7:2≤e∧e≤80:=by exact bW):Con Tryz.prog 124 [iv e,iv a,ag (D6 s)] [] [] ({t:VR×List Rwq // bT 2 R.length t.1∧Q4 t.2 R}) (fun x=>.slice (va x.1.1.q) R.length x.1.1.k) (fun x=>((vo A6e 87 x.1.1 x.1.2)++([]))) (fun x=>[A1n D8 x.1.2 R]):=by
 refine cC Tryz.func124 fun X hX hr hD=>?_
 replace hR:=(B1t.eq_1 ..).symm.trans hR
 refine bS rfl (zra 2 [] (fun u=>[(5,pt u 0)]) (fun _=>(D6 s)) 65 fun u=>(ie (bS rfl (bP 1 9 rfl (D7 (q:=A1n D8 _ (List.replicate ((a).toNat) _)) F4q ?_)))))
 refine it rfl (E4o (α:=Cel) (l:=(a).toNat) (cc:=(a).toNat) F3v F1k.ok rfl (by exact congrArg (fun z=>some (Value.int .i64 z)) (show a=(((a).toNat:Nat):Int) by omega)) (by exact congrArg (fun z=>some (Value.int .i64 z)) (show a=(((a).toNat:Nat):Int) by omega)) opx ofv opx) fun ⟨r2,o⟩=>?_
 have:=bT.le o
 have:(List.replicate ((a).toNat) (zwc:Rwc Cel)).length=(a).toNat:=List.length_replicate
 refine bP 1 7 rfl (ie (A3 (bS rfl (cG 3 12 13 rfl (ie (A9 ?_))))))
 refine A3q (un fun l=>un fun lr=>un fun g d=>(d≤(List.replicate ((a).toNat) zwc).length∧A2k e s ((List.replicate _ _).drop d) l d=R∧bT 2 l.length lr∧Q4 g l∧l.length=a.toNat,[(0,_),(5,_),(7,.slice (va lr.q) l.length lr.k),(12,iv _),(13,iv d)],(bx u _ _::((vo _ _ lr g)++([]))),[_,A1n _ g l],(List.replicate ((a).toNat) (zwc:Rwc Cel)).length - d)) (_,_,_,0) ⟨opx,hR,o,(Q4.rep _),(by exact List.length_replicate)⟩ bU cB ?_
 rintro ⟨l,lr,g,d⟩ ⟨a4,hR,f,b,w⟩
 have:=b.1
 refine bS rfl (bP 1 14 rfl ?_)
 refine ie (A3 (G4 rfl (fun h5=>?_) (fun h5=>?_)))
 ·have v:=bV h5
  rw [A1b zwc (show d<(List.replicate ((a).toNat) (zwc:Rwc Cel)).length by omega)] at hR;replace hR:=(A2k.eq_2 ..).symm.trans hR
  refine A4 (nx (A3 (A9 (bS rfl (bP 2 8 rfl (ie (A1 _ rfl (c9 4 6 [0] [(17,.slice (va lr.q) l.length lr.k),(18,iv d),(19,iv e),(20,ag (D6 s))] ?_))))))))
  have hQ:=C4 hR;clear hR;obtain ⟨h,a2,hR⟩:=hQ
  refine zc rfl (E4f a2) fun ⟨i,j⟩=>?_
  refine ip' 3 2 [(22,ag [.slice (va i.q) h.1.length i.k,bv h.2.1])] ?_
  obtain ⟨b8,y⟩:=bT.some f opx
  obtain ⟨a1,n,m⟩:=lr
  obtain rfl:a1=some b8:=y
  refine D7 (F5l (k:=d) b 1 rfl (by have:=b.1;omega)) ?_
  refine ix rfl (A1k E5k rfl rfl rfl d rfl (by have:=b.1;omega)) ?_
  have:=bT.cap j
  have:=bT.le j
  refine R5 [_] ((vo _ _ _ g)++([])) j oll ?_
  have p:Q4 (g.set d (⟨⟨va i.q,h.1.length,i.k⟩,h.2.1⟩:Rwq)) (l.set d (⟨h.1,h.2.1⟩:Rwc Cel)):=Q4.set b d ⟨rfl,okl,okl⟩ rfl
  refine D7 (F4a d (r:=(⟨⟨va i.q,h.1.length,i.k⟩,h.2.1⟩)) (x:=⟨h.1,h.2.1⟩) (A5 3 rfl) (A5 0 rfl)) ?_
  refine it rfl (A5x (us:=[.slice (va i.q) h.1.length i.k,bv h.2.1]) (u':=(⟨⟨va i.q,h.1.length,i.k⟩,h.2.1⟩:Rwq)) (c:=A6e) (sz:=2) E8d (fun _=>rfl) rfl rfl rfl 1 rfl rfl rfl rfl d 0 rfl (gd zwq (by have:=b.1;omega)) rfl rfl) fun _=>?_
  refine A2 (nx (A1 2 rfl (ix rfl (B3 rfl rfl rfl rfl opx) (bP 1 13 rfl (A2 ?_)))))
  exact A2g (_,_,_,_) ⟨opx,hR,(bT.cast f oom),p,(by (rw [List.length_set];exact w))⟩ olr bU cB
 have v:=bV h5
 rw [A1d v] at hR;replace hR:=(A2k.eq_1 ..).symm.trans hR
 refine F4 (nx (bS rfl (bP 2 6 rfl ?_)))
 subst hR
 refine ie (A8 ?_)
 exact cD hr hD (K7 rfl (A6 rfl)) ⟨(_,g),⟨f,b⟩⟩ bU cB
def A5k (a:Int) (b:Int) (s:Sty):List (Rwc Cel)×Int :=
 (bif ((((decide (a<2))||(decide ((80:Int)<a)))||(decide (b<1)))||(decide ((40:Int)<b))) then (([]:List (Rwc Cel)),2) else (bif (!decide ((P0 s)=0)) then (([]:List (Rwc Cel)),(P0 s)) else (B6 (B1t a b s) fun (c:List (Rwc Cel))=>(c,0))))
theorem D1b {b a:Int} {s:Sty} {R:List (Rwc Cel)×Int} (hR:A5k b a s=R):Con Tryz.prog 81 [iv b,iv a,ag (D6 s)] [] [] ({t:VR×List Rwq // bT 2 R.1.length t.1∧Q4 t.2 R.1}) (fun x=>.tuple #[.slice (va x.1.1.q) R.1.length x.1.1.k,iv R.2]) (fun x=>((vo A6e 87 x.1.1 x.1.2)++([]))) (fun x=>[A1n D8 x.1.2 R.1]):=by
 refine cC Tryz.func81 fun X hX hr hD=>?_
 replace hR:=(A5k.eq_1 ..).symm.trans hR
 refine bS rfl (zra 3 [] (fun j=>[(5,pt j 0)]) (fun _=>(D6 s)) 65 fun j=>(ie (A3 (bS rfl (bP 3 11 rfl ?_)))))
 refine zir 3 8 11 14 (decide (80<b)) (fun u n=>?_) ?_
 ·refine bP 3 14 rfl ?_
  exact A2 (J0 2 11 _ u bX bU rfl rfl rfl rfl rfl)
 refine bP 1 15 rfl ?_
 refine zio 3 4 15 18 (decide (a<1)) (fun m=>?_) ?_
 ·have v:=bV m
  refine bP 3 18 rfl ?_
  exact A2 (J0 2 15 _ m bX bU rfl rfl rfl rfl rfl)
 refine bP 1 19 rfl ?_
 refine zio 3 0 19 22 (decide (40<a)) (fun i=>?_) ?_
 ·have p:=bV i
  refine bP 3 22 rfl ?_
  exact A2 (J0 2 19 _ i bX bU rfl rfl rfl rfl rfl)
 refine ie ?_
 refine zjb rfl hR ?_ ?_<;>clear hR<;>intro hR l
 ·have g:=bV l
  refine bS rfl (cG 2 6 7 rfl ?_)
  subst hR
  refine ie (A8 ?_)
  exact cD hr hD (U0 rfl (A6 rfl) (A6 rfl)) ⟨(_,_),⟨bT.nil,Q4.none⟩⟩ bU cB
 have g:=bV l
 refine A4 (nx (A3 (bS rfl (c9 1 2 [0] [(23,ag (D6 s))] (zv rfl (A5w rfl) (bP 1 8 rfl (ie (bS rfl (bP 2 26 rfl (ie ?_))))))))))
 refine zjn rfl hR ?_ ?_<;>clear hR<;>intro hR z o
 ·refine bS rfl (cG 3 6 7 rfl ?_)
  subst hR
  refine ie (A8 ?_)
  exact cD hr hD (U0 rfl (A6 rfl) (A6 rfl)) ⟨(_,_),⟨bT.nil,Q4.none⟩⟩ bU cB
 refine A4 (nx (bS rfl (c9 3 3 [0] [(28,iv b),(29,iv a),(30,ag (D6 s))] ?_)))
 have r:=C4 hR;clear hR;obtain ⟨y,h,hR⟩:=r
 refine zc rfl (D3p h) fun ⟨⟨w,f⟩,d⟩=>?_
 try dsimp only at d
 obtain ⟨e,c⟩:=d
 refine cG 2 6 7 rfl ?_
 subst hR
 refine ie (A8 ?_)
 exact cD hr hD (U0 rfl (A6 rfl) (A6 rfl)) _ bU cB
def Y1 (cols:Int) (rows:Int):ScrC×List (Rwc Cel)×List (Rwc Cel)×List Bool×Int :=
 (B6 (A5k cols rows Sty.zero) fun (a:List (Rwc Cel)×Int)=>(bif (!decide (a.2=0)) then (ScrC.zero,([]:List (Rwc Cel)),([]:List (Rwc Cel)),([]:List Bool),a.2) else (B6 (A5k cols rows Sty.zero) fun (c:List (Rwc Cel)×Int)=>(B6 (B9j cols) fun (b:List Bool×Int)=>({ScrC.zero with cols:=cols,rows:=rows,modes:=B3o,bottom:=(IntKind.i64.wrap (rows - (1:Int)))},a.1,c.1,b.1,b.2)))))
theorem B0s (c r:Int):(Y1 c r).1.title.length=0:=by
 unfold Y1 B6
 simp only [Bool.cond_eq_ite]
 split<;>rfl
theorem D5n (c r:Int) (s:Sty):(A5k c r s).1.length≤100:=by
 have h:∀ (w:Int) (b l:List (Rwc Cel)) (t:Nat),(A2k w s b l t).length=l.length:=by
  intro w b
  induction b with
  | nil=>intros;rfl
  | cons a b ih=>intro l t;simp only [A2k,B6];rw [ih,List.length_set]
 unfold A5k
 cases hb:((((decide (c<2))||(decide ((80:Int)<c)))||(decide (r<1)))||(decide ((40:Int)<r))) with
 | true=>exact Nat.zero_le _
 | false =>
  simp only [Bool.or_eq_false_iff,decide_eq_false_iff_not] at hb
  rw [cond_false]
  cases decide (P0 s=0) with
  | false=>exact Nat.zero_le _
  | true=>show (B1t c r s).length≤100;unfold B1t;rw [h,List.length_replicate];omega
theorem B9p (c r:Int):(Y1 c r).2.1.length≤100∧(Y1 c r).2.2.1.length≤100:=by
 unfold Y1 B6
 have h:=D5n c r Sty.zero
 simp only [Bool.cond_eq_ite]
 split
 ·exact ⟨Nat.zero_le _,Nat.zero_le _⟩
 ·exact ⟨h,h⟩
theorem C3b {cols rows:Int} {R:ScrC×List (Rwc Cel)×List (Rwc Cel)×List Bool×Int} (hR:Y1 cols rows=R):Con Tryz.prog 51 [iv cols,iv rows] [] [] ({t:VR×List Rwq // bT 2 R.2.1.length t.1∧Q4 t.2 R.2.1}×{t:VR×List Rwq // bT 2 R.2.2.1.length t.1∧Q4 t.2 R.2.2.1}×{r:VR // bT 1 R.2.2.2.1.length r}) (fun x=>.tuple #[ag (aE R.1 (va x.1.1.1.q) R.2.1 x.1.1.1.k (va x.2.1.1.1.q) R.2.2.1 x.2.1.1.1.k (va x.2.2.1.q) R.2.2.2.1 x.2.2.1.k),iv R.2.2.2.2]) (fun x=>((vo A6e 87 x.1.1.1 x.1.1.2)++((vo A6e 87 x.2.1.1.1 x.2.1.1.2)++((vo A8z 4 x.2.2.1 R.2.2.2.1)++([]))))) (fun x=>[A1n D8 x.1.1.2 R.2.1,A1n D8 x.2.1.1.2 R.2.2.1]):=by
 refine cC Tryz.func51 fun X hX hr hD=>?_
 replace hR:=(Y1.eq_1 ..).symm.trans hR
 refine bS rfl (zra 2 [] (fun m=>[(4,pt m 0)]) (fun _=>aG) 120 fun m=>(ie (bS rfl (c9 3 6 [] [(12,iv cols),(13,iv rows),(14,ag (D6 Sty.zero))] ?_))))
 have n:=C4 hR;clear hR;obtain ⟨o,v,hR⟩:=n
 refine zc rfl (D1b v) fun ⟨⟨b,h⟩,p⟩=>?_
 try dsimp only at p
 obtain ⟨i,s⟩:=p
 have:=bT.le i
 have:=bT.cap i
 have:=s.1
 refine cG 5 6 7 rfl (ie (A3 (bS rfl (bP 2 19 rfl (ie ?_)))))
 refine zjn rfl hR ?_ ?_<;>clear hR<;>intro hR h7 z
 ·refine bS rfl (zru 4 [0] [(5,iv o.2)] 0 (bx m aG 120) ?_)
  subst hR
  refine ie (A8 ?_)
  exact cD hr hD (U0 rfl (D8f F1a rfl 0 rfl rfl) (A6 rfl)) (⟨(_,_),⟨bT.nil,Q4.none⟩⟩,⟨(_,_),⟨bT.nil,Q4.none⟩⟩,⟨_,bT.nil⟩) bU cB
 refine A4 (nx (bS rfl (c9 3 6 [] [(23,iv cols),(24,iv rows),(25,ag (D6 Sty.zero))] ?_)))
 have n:=C4 hR;clear hR;obtain ⟨u,w,hR⟩:=n
 refine zc rfl (D1b w) fun ⟨⟨d,j⟩,g⟩=>?_
 try dsimp only at g
 obtain ⟨e,f⟩:=g
 have:=bT.le e
 have:=bT.cap e
 have:=f.1
 refine bP 5 8 rfl (ie (bS rfl (bP 1 30 rfl ?_)))
 have n:=C4 hR;clear hR;obtain ⟨l,y,hR⟩:=n
 refine zc rfl (E1p y) fun ⟨a,c⟩=>?_
 have:=bT.le c
 have:=bT.cap c
 refine cG 5 10 7 rfl (ie (bS rfl (pp4 4 34 35 36 37 rfl (zv rfl (E1x rfl) (bP 1 39 rfl (ix rfl (J9.pure rfl) ?_))))))
 refine zru 5 [0] [(5,iv l.2)] 0 (bx m (A3p ({ScrC.zero with cols:=cols,rows:=rows,modes:=B3o,bottom:=(IntKind.i64.wrap (rows - 1))}) ⟨va b.q,o.1.length,b.k⟩ ⟨va d.q,u.1.length,d.k⟩ ⟨none,0,0⟩ ⟨va a.q,l.1.length,a.k⟩) 120) ?_
 subst hR
 refine ie (A8 (Y0 (I1 [_,_,_,_] [0,3,2,1] 4 rfl ozw rfl [[_],vo _ _ b h,vo _ _ d j,vo _ 4 a _] rfl opv) ?_))
 exact cD hr hD (U0 rfl (D8f (us:=A3p ({ScrC.zero with cols:=cols,rows:=rows,modes:=B3o,bottom:=(IntKind.i64.wrap (rows - (1:Int)))}) ⟨va b.q,o.1.length,b.k⟩ ⟨va d.q,u.1.length,d.k⟩ ⟨none,0,0⟩ ⟨va a.q,l.1.length,a.k⟩) F1a rfl 0 rfl rfl) (A6 rfl)) (⟨(b,h),⟨i,s⟩⟩,⟨(d,j),⟨e,f⟩⟩,⟨a,c⟩) bU cB
def O2 (row:Int) (a:Int) (p2:Int) (b:Int):Bool :=
 ((((decide ((0:Int)≤row))&&(decide (row<p2)))&&(decide ((0:Int)≤a)))&&(decide (a<b)))
theorem B3n {row a p2 d:Int} {c b:Addr} {R:Bool} (hR:O2 row a p2 d=R):J5 Tryz.prog 98 [iv row,iv a,pa c,pa b] [at_ c [iv p2],at_ b [iv d]] (bv R):=by
 refine cC Tryz.func98 fun X hX hr hD=>?_
 replace hR:=(O2.eq_1 ..).symm.trans hR
 refine bS rfl (pp0 1 rfl (ie (bS rfl (bP 3 9 rfl ?_))))
 refine zid 4 10 9 13 (decide (row<p2)) (fun h g=>?_) ?_
 ·refine bP 1 10 rfl (ix rfl (C9 cH rfl rfl (A5 0 rfl) rfl) (bP 2 13 rfl ?_))
  exact zai 4 9 _ h
 refine bP 1 14 rfl ?_
 refine zia 3 6 14 17 (decide (0≤a)) (fun e=>?_) ?_
 ·have i:=bV e
  refine bP 3 17 rfl ?_
  exact zai 2 14 _ e
 refine bP 1 18 rfl ?_
 refine zia 4 1 18 22 (decide (a<d)) (fun f=>?_) ?_
 ·have j:=bV f
  refine bP 1 19 rfl (ix rfl (C9 cH rfl rfl (A5 1 rfl) rfl) (bP 2 22 rfl ?_))
  exact zai 4 18 _ f
 refine bP 1 6 rfl ?_
 subst hR
 refine ie (A8 ?_)
 exact F7 hr hD
@[reducible] def F6t:List Value:=[iv 0,iv 0,.slice none 0 0,.slice none 0 0,bv false,.slice none 0 0,iv 0,iv 0,bv false,iv 0,iv 0,iv 0,iv 0,iv 0,iv 0,iv 0,iv 0,iv 0,iv 0,iv 0,iv 0,iv 0,iv 0,bv false,bv false,bv false,bv false,bv false,bv false,bv false,bv false,bv false,bv false,bv false,iv 0,bv false,iv 0,iv 0,.slice none 0 0,bv false,iv 0,iv 0,bv false,iv 0,iv 0,iv 0,iv 0,iv 0,iv 0,iv 0,iv 0,iv 0,iv 0,iv 0,iv 0,iv 0,iv 0,bv false,bv false,iv 0,iv 0,bv false,iv 0,iv 0,iv 0,iv 0,iv 0,iv 0,iv 0,iv 0,iv 0,iv 0,iv 0,iv 0,iv 0,iv 0,bv false,iv 0,sv ([]:List UInt8),iv 0]
def J7 (a:Int) (b:Int) (p:Pth):Int :=
 (B6 (Y1 a b) fun (c:ScrC×List (Rwc Cel)×List (Rwc Cel)×List Bool×Int)=>(bif ((((!decide (c.2.2.2.2=0))||(!(O2 p.frm.row p.frm.col b a)))||(!(O2 p.to_.row p.to_.col b a)))||(p.frm.wrap&&(!decide (p.frm.col=(IntKind.i64.wrap (a - (1:Int))))))) then 2 else 0))
theorem C5r {a d:Int} {p:Pth} {R:Int} (hR:J7 a d p=R):J5 Tryz.prog 61 [iv a,iv d,ag (M1 p)] [] (iv R):=by
 refine cC Tryz.func61 fun X hX hr hD=>?_
 replace hR:=(J7.eq_1 ..).symm.trans hR
 refine bS rfl (it rfl (A0h rfl rfl rfl) fun w=>?_)
 refine A3w 0 rfl ?_
 refine it rfl (A0h rfl rfl rfl) fun z=>?_
 refine A3w 0 rfl ?_
 refine it rfl (A0h rfl rfl rfl) fun b3=>?_
 refine A3w 0 rfl ?_
 refine pp0 1 rfl (ie (bS rfl (ix rfl (C9 cH rfl rfl (A5 2 rfl) rfl) (ix rfl (C9 cH rfl rfl (A5 1 rfl) rfl) ?_))))
 have hQ:=C4 hR;clear hR;obtain ⟨u,h,hR⟩:=hQ
 refine zc rfl (C3b h) fun ⟨⟨⟨r4,a8⟩,i⟩,⟨⟨r9,a3⟩,f⟩,⟨s,g⟩⟩=>?_
 try dsimp only at i
 obtain ⟨n,y⟩:=i
 try dsimp only at f
 obtain ⟨e,t⟩:=f
 have c:=B0s a d;rw [h] at c;have b:=B9p a d;rw [h] at b
 refine zra 6 [0] (fun v=>[(8,iv u.2.2.2.2)]) (fun _=>(aE u.1 (va r4.q) u.2.1 r4.k (va r9.q) u.2.2.1 r9.k (va s.q) u.2.2.2.1 s.k)) 120 fun v=>?_
 refine ie (bS rfl (ip' 2 0 [(9,.func (.func 98) #[] #[pa ⟨z,0,none⟩,pa ⟨w,0,none⟩])] (ie (A3 (bS rfl (bP 3 19 rfl ?_))))))
 refine zio 10 24 19 29 (!(O2 p.frm.row p.frm.col d a)) (fun o=>?_) ?_
 ·have a6:=bV o
  refine ip' 3 7 [(20,.func (.func _) #[] #[pa _,pa ⟨w,0,none⟩]),(22,pa _)] (ix rfl (C9 cH rfl rfl (A0i (A0i (A5 2 rfl) (ws:=H4 p.frm) 3 rfl) (ws:=[iv p.frm.row]) 1 rfl) rfl) (bP 2 25 rfl (ix rfl (C9 cH rfl rfl (X7 (A0i (A5 2 rfl) (ws:=H4 p.frm) 3 rfl) (ws:=[iv p.frm.col]) 1 1 rfl) rfl) (zv rfl (B3n rfl) (bP 2 29 rfl ?_)))))
  exact A2 (J0 8 19 _ o A7.refl bU rfl rfl rfl rfl rfl)
 refine bP 1 30 rfl ?_
 refine zio _ 13 30 40 (!(O2 p.to_.row p.to_.col d a)) (fun j=>?_) ?_
 ·have a4:=bV j
  refine ip' 3 7 [(31,.func (.func _) #[] #[pa _,pa ⟨w,0,none⟩]),(33,pa _)] (ix rfl (C9 cH rfl rfl (A0i (X7 (A5 2 rfl) 3 2 rfl) (ws:=[iv p.to_.row]) 1 rfl) rfl) (bP 2 36 rfl (ix rfl (C9 cH rfl rfl (X7 (X7 (A5 2 rfl) (ws:=S8 p.to_) 3 2 rfl) (ws:=[iv p.to_.col]) 1 1 rfl) rfl) (zv rfl (B3n rfl) (bP 2 40 rfl ?_)))))
  exact A2 (J0 8 30 _ j A7.refl bU rfl rfl rfl rfl rfl)
 refine bP 1 41 rfl ?_
 refine zio _ 0 41 53 (p.frm.wrap&&(!decide (p.frm.col=(IntKind.i64.wrap (a - 1))))) (fun r=>?_) ?_
 ·have a2:=bV r
  refine bP 2 43 rfl (ix rfl (C9 ty4 rfl rfl (X7 (A0i (A5 2 rfl) 3 rfl) (ws:=[bv _]) 2 1 rfl) rfl) (bP 1 45 rfl ?_))
  refine zia 7 1 45 52 (!decide (p.frm.col=(IntKind.i64.wrap (a - 1)))) (fun x=>?_) ?_
  ·refine bP 2 47 rfl (ix rfl (C9 cH rfl rfl (X7 (A0i (A5 2 rfl) 3 rfl) (ws:=[iv _]) 1 1 rfl) rfl) (ix rfl (C9 cH rfl rfl (A5 4 rfl) rfl) (ix rfl (J9.pure rfl) (bP 2 52 rfl ?_))))
   exact A2 (J0 6 45 _ x A7.refl bU rfl rfl rfl rfl rfl)
  refine bP 1 53 rfl ?_
  exact A2 (J0 6 41 _ r A7.refl bU rfl rfl rfl rfl rfl)
 refine ie ?_
 refine zjb rfl hR ?_ ?_<;>clear hR<;>intro hR m
 ·have l:=bV m
  refine bS rfl (bP 1 6 rfl ?_)
  subst hR
  refine ie (A8 ?_)
  exact F7 hr hD
 refine A4 (nx (bS rfl (bP 1 6 rfl ?_)))
 subst hR
 refine ie (A8 ?_)
 exact F7 hr hD
theorem E8z {c r:Int} {s:Sty} (h:(A5k c r s).2=0):2≤c∧c≤80∧1≤r∧r≤40:=by
 unfold A5k at h
 by_cases hb:2≤c∧c≤80∧1≤r∧r≤40
 ·exact hb
 ·rw [show ((((decide (c<2))||(decide ((80:Int)<c)))||(decide (r<1)))||(decide ((40:Int)<r)))=true by simp only [Bool.or_eq_true,decide_eq_true_eq];omega] at h
  exact absurd (show (2:Int)=0 from h) ozw
theorem E4a {c r:Int} (h:(Y1 c r).2.2.2.2=0):2≤c∧c≤80∧1≤r∧r≤40:=by
 unfold Y1 at h;simp only [B6] at h
 cases hg:decide ((A5k c r Sty.zero).2=0) with
 | true=>exact E8z (of_decide_eq_true hg)
 | false =>
  rw [hg] at h
  exact absurd (show (A5k c r Sty.zero).2=0 from h) (of_decide_eq_false hg)
theorem C8y {c r:Int} {p:Pth} (h:(!decide (J7 c r p=0))=false):(2≤c∧c≤80∧1≤r∧r≤40)∧(0≤p.frm.row∧p.frm.row<r∧0≤p.frm.col∧p.frm.col<c)∧(0≤p.to_.row∧p.to_.row<r∧0≤p.to_.col∧p.to_.col<c)∧(p.frm.wrap=true→p.frm.col=c - 1):=by
 have a:J7 c r p=0:=by simpa using h
 unfold J7 at a;simp only [B6] at a
 revert a
 cases hq:(!decide ((Y1 c r).2.2.2.2=0)) with
 | true=>intro a;exact absurd (show (2:Int)=0 from a) ozw
 | false =>
  have b:=E4a (c:=c) (r:=r) (by simpa using hq)
  cases h1:O2 p.frm.row p.frm.col r c with
  | false=>intro a;exact absurd (show (2:Int)=0 from a) ozw
  | true =>
   cases h2:O2 p.to_.row p.to_.col r c with
   | false=>intro a;exact absurd (show (2:Int)=0 from a) ozw
   | true =>
    unfold O2 at h1 h2
    simp only [Bool.and_eq_true,decide_eq_true_eq] at h1 h2
    cases h3:p.frm.wrap with
    | false=>intro _;exact ⟨b,⟨h1.1.1.1,h1.1.1.2,h1.1.2,h1.2⟩,⟨h2.1.1.1,h2.1.1.2,h2.1.2,h2.2⟩,fun e=>by cases e⟩
    | true =>
     intro a
     rw [C3q (by show (-9223372036854775808:Int)≤_;omega) (by show _≤(9223372036854775807:Int);omega)] at a
     refine ⟨b,⟨h1.1.1.1,h1.1.1.2,h1.1.2,h1.2⟩,⟨h2.1.1.1,h2.1.1.2,h2.1.2,h2.2⟩,fun _=>?_⟩
     by_cases h4:p.frm.col=c - 1
     ·exact h4
     ·rw [decide_eq_false h4] at a
      exact absurd (show (2:Int)=0 from a) ozw
theorem C2r {c r:Int} {c0:Pth} (h:(!decide (J7 c r c0=0))=false):(0≤c0.frm.row∧c0.frm.row≤40∧0≤c0.to_.row∧c0.to_.row≤40)∧(0≤c0.frm.col∧c0.frm.col≤80∧0≤c0.to_.col∧c0.to_.col≤80):=by
 have:=C8y h;omega
theorem A4u:ApTy Tryz.prog 31 54 6 56:=⟨by kernel_rfl,by kernel_rfl,rfl⟩
theorem B1y:ApTy Tryz.prog 96 31 1 24:=⟨by kernel_rfl,by kernel_rfl,rfl⟩
theorem A5b:SlTy Tryz.prog 96 31 1:=⟨by kernel_rfl,by kernel_rfl⟩
theorem C1v:Ty Tryz.prog 31 1 false:=⟨by kernel_rfl⟩
theorem F1i:Ty Tryz.prog 138 5 true:=⟨by kernel_rfl⟩
def C3 (p:Pth):Pth :=
 p
theorem C2k {p R:Pth} (hR:C3 p=R):Con Tryz.prog 62 [ag (M1 p)] [] [] (Addr) (fun x=>.func (.func 99) #[] #[pa x]) (fun x=>[]) (fun x=>[at_ x (M1 R)]):=by
 refine cC Tryz.func62 fun X hX hr hD=>?_
 replace hR:=(C3.eq_1 ..).symm.trans hR
 refine bS rfl (it rfl (A0h rfl rfl rfl) fun a=>?_)
 refine A3w 0 rfl ?_
 refine pp0 1 rfl (ie (bS rfl (ip' 2 0 [(2,.func (.func 99) #[] #[pa ⟨a,0,none⟩])] ?_)))
 subst hR
 refine ie (A8 ?_)
 exact cD hr hD (K7 rfl (A6 rfl)) _ bU cB
def B8 (p:Pth):Pth :=
 p
theorem C2w {p R:Pth} (hR:B8 p=R):Con Tryz.prog 101 [ag (M1 p)] [] [] (Addr) (fun x=>.func (.func 138) #[] #[pa x]) (fun x=>[]) (fun x=>[at_ x (M1 R)]):=by
 refine cC Tryz.func101 fun X hX hr hD=>?_
 replace hR:=(B8.eq_1 ..).symm.trans hR
 refine bS rfl (it rfl (A0h rfl rfl rfl) fun a=>?_)
 refine A3w 0 rfl ?_
 refine pp0 1 rfl (ie (bS rfl (ip' 2 0 [(2,.func (.func 138) #[] #[pa ⟨a,0,none⟩])] ?_)))
 subst hR
 refine ie (A8 ?_)
 exact cD hr hD (K7 rfl (A6 rfl)) _ bU cB
def F2v (a:Act):Prop:=a.text=[]∧-1000≤a.n∧a.n≤1000∧-1000≤a.m∧a.m≤1000∧a.kind≤43∧(a.kind=20→0≤a.n∧a.n≤3)
def mwA (e:List Act):Prop:=e.length≤50∧∀ a ∈ e,F2v a
theorem C9k {l:List (List Act)} (h:∀ e ∈ l,mwA e) (k:Nat):(l.getD k []).length≤50:=by
 rw [List.getD_eq_getElem?_getD]
 cases h3:l[k]? with
 | none=>exact Nat.zero_le _
 | some y=>exact (h y (List.mem_of_getElem? h3)).1
theorem E3f {a:Act} (h:F2v a):mwA [a]:=⟨Nat.le_of_ble_eq_true rfl,fun b hb=>by rw [List.mem_singleton.1 hb];exact h⟩
def C0b (e:List Act):Prop:=e.length≤100∧∀ a ∈ e,F2v a
theorem A2p {b:List Act} (h:C0b b):∀ a ∈ b,tk a:=fun a c=>by
 exact ⟨by rw [(h.2 a c).1];exact Nat.zero_le _,(h.2 a c).2.2.2.2.2.1⟩
theorem B7c {b:List Act} {rest:List (List Act)} (h:∀ e ∈ b::rest,C0b e):∀ a ∈ b,tk a:=A2p (h b (List.mem_cons_self ..))
theorem B6x {l:List (List Act)} (h:∀ e ∈ l,C0b e) (k:Nat):C0b (l.getD k []):=by
 rw [List.getD_eq_getElem?_getD]
 cases h3:l[k]? with
 | none=>exact ⟨Nat.zero_le _,fun a b=>by cases b⟩
 | some y=>exact h y (List.mem_of_getElem? h3)
def Q6 (n:Int) (m:Int):List Act :=
 ([{Act.zero with kind:=20,n:=n,m:=m}]:List Act)
theorem ogf {p:Prop} (h:p:=by first|omega|decide|(dsimp only;omega)|dsimp only):p:=h
theorem B9t {n m:Int} (h:0≤n∧n≤3∧0≤m∧m≤1000):mwA (Q6 n m) :=
 E3f ⟨rfl,show -1000≤n by omega,show n≤1000 by omega,show -1000≤m by omega,show m≤1000 by omega,ogf,fun _=>⟨h.1,h.2.1⟩⟩
theorem A8f {n m:Int} {R:List Act} (hR:Q6 n m=R):Con Tryz.prog 136 [iv n,iv m] [] [] ({t:Option Addr×Nat // R.length≤t.2∧R.length≤9223372036854775807}) (fun x=>.slice x.1.1 R.length x.1.2) (fun x=>[]) (fun x=>[sl A0 x.1.1 R]):=by
 refine cC Tryz.func136 fun X hX hr hD=>?_
 replace hR:=(Q6.eq_1 ..).symm.trans hR
 refine bS rfl (pp0 1 rfl (ie (bS rfl (c9 3 2 [] [(7,ag (A0 ({Act.zero with kind:=20,n:=n,m:=m})))] (it rfl (B1 (c:=A0) (xs:=[{Act.zero with kind:=20,n:=n,m:=m}]) Q1 rfl rfl rfl oki) fun a=>?_)))))
 have:([{Act.zero with kind:=20,n:=n,m:=m}]:List Act).length=1:=rfl
 refine bP 1 4 rfl ?_
 subst hR
 refine ie (A8 ?_)
 exact cD hr hD (K7 rfl (A6 rfl)) (zq _ 1) bU cB
def A0y (kind:Int) (times:Int):Nat→List Act→Nat→List Act
 | 0,_,_=>[]
 | fu1+1,out,a=>(bif (decide ((a:Int)<times)) then A0y kind times fu1 (out++([{Act.zero with kind:=kind}]:List Act)) (a+1) else out)
def P5 (kind:Int) (times:Int):List Act :=
 A0y kind times ((times - (0:Int)).toNat+1) ([]:List Act) 0
theorem D1y (kind times:Int):∀ (n t fu:Nat) (a:List Act),(times - t).toNat=n→n<fu→A0y kind times fu a t=a++List.replicate n {Act.zero with kind:=kind}
 | 0,t,fu+1,a,h,_=>by
  rw [A0y,decide_eq_false opx];simp
 | n+1,t,fu+1,a,h,hf=>by
  rw [A0y,decide_eq_true opx]
  show A0y kind times fu (a++[{Act.zero with kind:=kind}]) (t+1)=_
  rw [D1y kind times n (t+1) fu _ opx opx,List.append_assoc];rfl
theorem A7e (kind times:Int):P5 kind times=List.replicate times.toNat {Act.zero with kind:=kind}:=by
 unfold P5;rw [D1y kind times times.toNat 0 _ [] opx opx];rfl
theorem B4l {kind times:Int} {r:List Act} (h:P5 kind times=r) (d:times≤50) (b:kind≤43:=by decide):r.length≤50∧mwA r:=by
 subst h;rw [A7e]
 refine ⟨by rw [List.length_replicate];omega,by rw [List.length_replicate];omega,fun a c=>?_⟩
 rw [List.eq_of_mem_replicate c];exact ⟨rfl,show (-1000:Int)≤0 by omega,show (0:Int)≤1000 by omega,show (-1000:Int)≤0 by omega,show (0:Int)≤1000 by omega,ogf,fun _=>⟨show (0:Int)≤0 by omega,show (0:Int)≤3 by omega⟩⟩
theorem ohp {p:Prop} (h:p:=by first|omega|(simp only [List.length_cons,List.length_nil,List.length_append,List.length_take,List.length_drop,C3,B8];omega)):p:=h
theorem B1s {kind times:Int} {R:List Act} (hR:P5 kind times=R) (j:times≤50:=by exact bW):Con Tryz.prog 137 [iv kind,iv times] [] [] ({r:VR // bT 6 R.length r}) (fun x=>.slice (va x.1.q) R.length x.1.k) (fun x=>((vo A0 54 x.1 R)++([]))) (fun x=>[]):=by
 refine cC Tryz.func137 fun X hX hr hD=>?_
 replace hR:=(P5.eq_1 ..).symm.trans hR
 refine bS rfl (pp0 1 rfl (ie (bS rfl (bP 1 5 rfl (ie (A3 (bS rfl (cG 2 6 7 rfl (ie (A9 ?_))))))))))
 refine A3q (un fun fu=>un fun d=>un fun a (g:Nat)=>((times - g).toNat<fu∧A0y _ _ fu d g=R∧bT 6 d.length a∧d.length=g,[(0,_),(5,.slice (va a.q) d.length a.k),(6,_),(7,iv g)],((vo A0 54 a d)++([])),_,fu)) (_,_,_,0) ⟨(Nat.lt_succ_self _),hR,bT.nil,(by rfl)⟩ bU bX ?_
 rintro ⟨fu,d,a,g⟩ ⟨l,hR,b,p⟩
 have:=bT.le b
 obtain ⟨fu1,rfl⟩:∃ m,fu=m+1:=⟨fu - 1,by omega⟩
 replace hR:=(A0y.eq_2 ..).symm.trans hR
 refine bS rfl (bP 1 8 rfl (ie (A3 ?_)))
 refine zjd rfl hR ?_ ?_<;>clear hR<;>intro hR n h
 ·refine A4 (nx (A3 (A9 (A1 6 rfl (c9 3 3 [] [(9,.slice (va a.q) d.length a.k),(11,ag (A0 ({Act.zero with kind:=kind})))] (it rfl (B1 (c:=A0) (xs:=[{Act.zero with kind:=kind}]) Q1 rfl rfl rfl oki) fun o=>?_))))))
  have:([{Act.zero with kind:=kind}]:List Act).length=1:=rfl
  refine it rfl (S7 (f:=A0) (r:=a) (xs:=d) (ys:=([{Act.zero with kind:=kind}]:List Act)) (pre:=[]) (post:=[]) A4u (fun _=>rfl) (fun _=>rfl) rfl rfl rfl rfl rfl rfl rfl rfl rfl (A5 0 rfl) b ohp ohp) fun ⟨i,e⟩=>?_
  refine bP 1 5 rfl (A2 (nx (A1 2 rfl (ix rfl (B3 rfl rfl rfl rfl opx) (bP 1 7 rfl (A2 ?_))))))
  exact A2g (_,_,i,_) ⟨opx,hR,e,(by (simp only [List.length_append,List.length_cons,List.length_nil];omega))⟩ (Nat.lt_succ_self _) bU bX
 refine F4 (nx (bS rfl (bP 2 4 rfl ?_)))
 subst hR
 refine ie (A8 ?_)
 exact cD hr hD (K7 rfl (A6 rfl)) ⟨a,b⟩ bU bX
def H0 (c0:Pth):List (List Act) :=
 (bif (decide ((c0.to_.row - c0.frm.row)=0)) then (([]:List Act)::[]) else (bif (decide ((c0.to_.row - c0.frm.row)<0)) then (B6 (Q6 0 (-(c0.to_.row - c0.frm.row))) fun (b:List Act)=>(b::[])) else (B6 (Q6 1 (c0.to_.row - c0.frm.row)) fun (c:List Act)=>(c::(bif (decide ((c0.to_.row - c0.frm.row)≤4)) then (B6 (P5 5 (c0.to_.row - c0.frm.row)) fun (a:List Act)=>(a::[])) else [])))))
theorem C9h (c0:Pth) (hb:0≤c0.frm.row∧c0.frm.row≤40∧0≤c0.to_.row∧c0.to_.row≤40):∀ e ∈ H0 c0,mwA e:=by
 unfold H0 B6
 intro e b
 rcases Int.lt_trichotomy c0.frm.row c0.to_.row with h | h | h
 ·rw [decide_eq_false (show ¬ c0.to_.row - c0.frm.row=0 by omega),decide_eq_false (show ¬ c0.to_.row - c0.frm.row<0 by omega)] at b
  have b:e ∈ Q6 1 (c0.to_.row - c0.frm.row)::(bif decide (c0.to_.row - c0.frm.row≤4) then [P5 5 (c0.to_.row - c0.frm.row)] else []):=b
  rcases List.mem_cons.1 b with rfl | b
  ·exact B9t opx
  ·cases hd:decide (c0.to_.row - c0.frm.row≤4) with
   | true=>rw [hd] at b;rw [List.mem_singleton.1 b];exact (B4l rfl opx).2
   | false=>rw [hd] at b;cases b
 ·rw [decide_eq_true (show c0.to_.row - c0.frm.row=0 by omega)] at b;rw [List.mem_singleton.1 b];exact ⟨Nat.zero_le _,fun a c=>by cases c⟩
 ·rw [decide_eq_false (show ¬ c0.to_.row - c0.frm.row=0 by omega),decide_eq_true (show c0.to_.row - c0.frm.row<0 by omega)] at b
  rw [List.mem_singleton.1 b];exact B9t opx
theorem D7r (c0:Pth):(H0 c0).length≤2:=by
 unfold H0 B6;simp only [Bool.cond_eq_ite];repeat' split
 all_goals simp
theorem oyh {p:Prop} (h:p:=by first|omega|(simp only [List.length_take,List.length_drop,List.length_append,List.length_cons,List.length_nil,List.length_set,List.length_map,C3,B8];omega)|decide):p:=h
theorem C0c (c0:Pth) (g:Addr) (hb:0≤c0.frm.row∧c0.frm.row≤40∧0≤c0.to_.row∧c0.to_.row≤40) (R:List (List Act)) (hR:H0 c0=R):B6s Tryz.prog 138 [pa g] [] [at_ g (M1 c0)] A0 R:=by
 refine C2q _ (n:=36) Tryz.func138 rfl oki rfl rfl (fun l=>[(0,_),(1,_)]) (fun l=>⟨rfl,rfl,trivial⟩) fun X l I Ix L Φ hX hr hD hI0 hY=>?_
 replace hR:=(H0.eq_1 ..).symm.trans hR
 refine sr 8 rfl (ip' 2 6 [(5,pa _)] (ix rfl (C9 cH rfl rfl (A0i (X7 (A5 0 rfl) 3 2 rfl) (ws:=[iv _]) 1 rfl) rfl) (ip' 2 3 [(8,pa g)] (ix rfl (C9 cH rfl rfl (A0i (A0i (A5 0 rfl) 3 rfl) (ws:=[iv _]) 1 rfl) rfl) (ix rfl (M4 rfl rfl rfl rfl opx) (ip' 1 0 [(3,iv (c0.to_.row - c0.frm.row))] (ie (A9 (sr 3 rfl (ip' 3 0 [(23,bv (decide ((c0.to_.row - c0.frm.row)=0)))] ?_))))))))))
 refine ie ?_
 refine zjd rfl hR ?_ ?_<;>clear hR<;>intro hR h1 al
 ·refine A1 2 rfl (ip' 1 1 [(26,.func (.yield l) #[] #[])] ?_)
  have p:=B8p hR;clear hR;obtain ⟨R2,hR,p⟩:=p;rw [p] at hI0
  refine it rfl (A4d (L2:=[]) (hY ([]:List Act) R2 _ _ none 0 oyh oyh hI0) rfl rfl rfl rfl (A7.con1 B0i (A7.dropT 1 rfl)) (I1 [L] [0] 1 rfl ozw rfl [L] rfl ooa)) fun ⟨⟨y3,L4,Φ5⟩,a4⟩=>?_
  refine A8l (A7.yield _) ?_
  subst hR
  refine A2 ?_
  exact X9 rfl ⟨hr,hD⟩ (by simp [hD]) (B0u rfl) (by cases y3<;>first|exact .inr (by simpa using a4)|exact .inl (by simpa using a4)) (mcT [_] 0 rfl rfl) (A7.dropT 1 rfl)
 refine sr 3 rfl (ip' 3 0 [(28,bv (decide ((c0.to_.row - c0.frm.row)<0)))] (ie ?_))
 refine zjd rfl hR ?_ ?_<;>clear hR<;>intro hR h8 ai
 ·refine A1 5 rfl (ip' 2 3 [(31,.func (.yield l) #[] #[]),(32,iv (c0.to_.row - c0.frm.row))] (ix rfl (C0r rfl rfl rfl opx) ?_))
  have z:=C4 hR;clear hR;obtain ⟨y1,y,hR⟩:=z
  refine zcm (A8f (n:=0) (m:=(-(c0.to_.row - c0.frm.row))) y) bX fun ⟨⟨q9,a9⟩,a2⟩=>?_
  obtain ⟨af,ah⟩:=a2
  have j:=B8p hR;clear hR;obtain ⟨R14,hR,j⟩:=j;rw [j] at hI0
  refine it rfl (A4d (L2:=[]) (hY y1 R14 _ _ q9 a9 oyh oyh hI0) rfl rfl rfl rfl (A7.con1 (A5 0 rfl) (A7.dropT 2 rfl)) (I1 [L] [0] 1 rfl ozw rfl [L] rfl ooa)) fun ⟨⟨a8,L16,Φ17⟩,t⟩=>?_
  refine A8l (A7.yield [sl _ q9 _,_]) ?_
  subst hR
  refine A2 ?_
  exact X9 rfl ⟨hr,hD⟩ (by simp [hD]) (B0u rfl) (by cases a8<;>first|exact .inr (by simpa using t)|exact .inl (by simpa using t)) (mcT [_] 0 rfl rfl) (A7.dropT 2 rfl)
 refine sr 8 rfl (ip' 2 6 [(11,.func (.yield l) #[] #[]),(12,iv (c0.to_.row - c0.frm.row))] ?_)
 have z:=C4 hR;clear hR;obtain ⟨y5,a3,hR⟩:=z
 refine zcm (A8f (n:=1) (m:=(c0.to_.row - c0.frm.row)) a3) bX fun ⟨⟨u,aa⟩,a0⟩=>?_
 obtain ⟨ac,ad⟩:=a0
 have i:=B8p hR;clear hR;obtain ⟨R25,hR,i⟩:=i;rw [i] at hI0
 refine it rfl (A4d (L2:=[]) (hY y5 R25 _ _ u aa oyh oyh hI0) rfl rfl rfl rfl (A7.con1 (A5 0 rfl) (A7.dropT 2 rfl)) (I1 [L] [0] 1 rfl ozw rfl [L] rfl ooa)) fun ⟨⟨a1,L27,Φ28⟩,a⟩=>?_
 refine A8l (A7.yield [sl _ u _,_]) ?_
 refine ip' 1 3 [(15,bv a1)] ?_
 rcases Bool.eq_false_or_eq_true a1 with o | o
 ·refine D5k 15 rfl (by first|exact o|(rw [o];rfl)) ?_
  rw [o] at a;try simp only [if_true,if_false,Bool.false_eq_true] at a
  refine ip' 3 0 [(18,bv (decide ((c0.to_.row - c0.frm.row)≤4)))] (ie ?_)
  refine zjd rfl hR ?_ ?_<;>clear hR<;>intro hR ak ae
  ·refine A1 4 rfl (ip' 2 2 [(19,.func (.yield l) #[] #[]),(20,iv (c0.to_.row - c0.frm.row))] ?_)
   have z:=C4 hR;clear hR;obtain ⟨x,w,hR⟩:=z
   refine it rfl (L6 (L2:=(L27++([]))) (B1s (kind:=5) (times:=(c0.to_.row - c0.frm.row)) w opx) rfl rfl rfl rfl rfl bX (List.Perm.refl _) (fun ⟨f,e⟩=>(L27++((vo A0 54 f x)++([])))) (fun ⟨f,e⟩=>I1 [vo A0 54 f x,L27] [1,0] 2 rfl ozw opv [L27,vo A0 54 f x] rfl opv)) fun ⟨f,e⟩=>?_
   have d:=B4l w opx
   have:=d.1;try rw [w] at this
   have:=bT.cap e
   have:=bT.le e
   refine R5 (L27++([])) [] (T:=54) (c:=A0) e oll ?_
   refine B4m (L':=(L27++([]))) opv ?_
   have h:=B8p hR;clear hR;obtain ⟨R35,hR,h⟩:=h;rw [h] at a
   refine it rfl (A4d (L2:=[]) (hY x R35 _ _ (va f.q) f.k oyh oyh a) rfl rfl rfl rfl (A7.con1 (A5 0 rfl) (A7.dropT 3 rfl)) (I1 [L27] [0] 1 rfl ozw rfl [L27] rfl ooa)) fun ⟨⟨a7,L37,Φ38⟩,s⟩=>?_
   refine A8l (A7.yield [_,_,_]) ?_
   subst hR
   refine A2 ?_
   exact X9 rfl ⟨hr,hD⟩ (by simp [hD]) (B0u rfl) (by cases a7<;>first|exact .inr (by simpa using s)|exact .inl (by simpa using s)) (mcT [_] 0 rfl rfl) (A7.dropT 3 rfl)
  subst hR
  refine A4 ?_
  exact X9 rfl ⟨hr,hD⟩ (by simp [hD]) (B0u rfl) (by exact .inl a) (mcT [_] 0 rfl rfl) (A7.dropT 2 rfl)
 ·refine D5k 15 rfl (by first|exact o|(rw [o];rfl)) ?_
  rw [o] at a;try simp only [if_true,if_false,Bool.false_eq_true] at a
  refine ip' 3 0 [(18,bv _)] (ie (A4r rfl (A4 ?_)))
  exact X9 rfl ⟨hr,hD⟩ (by simp [hD]) (B0u rfl) (by exact .inr a) (mcT [_] 0 rfl rfl) (A7.dropT 2 rfl)
def I4 (p:Pth) (a:List (List Act)):List (List Act) :=
 (bif (decide (p.to_.col=0)) then (B6 (P5 6 1) fun (c:List Act)=>(a++([c]:List (List Act)))) else (B6 (P5 6 1) fun (d:List Act)=>(B6 (Q6 2 p.to_.col) fun (b:List Act)=>(a++([(d++b)]:List (List Act))))))
def K6 (p:Pth) (a:List (List Act)):List (List Act) :=
 (bif ((decide ((p.to_.col - p.frm.col)<0))&&(decide ((-(p.to_.col - p.frm.col))≤4))) then (B6 (P5 3 (-(p.to_.col - p.frm.col))) fun (b:List Act)=>I4 p (a++([b]:List (List Act)))) else I4 p a)
def I6 (p:Pth) (a:List (List Act)):List (List Act) :=
 (bif (decide ((p.to_.col - p.frm.col)<0)) then (B6 (Q6 3 (-(p.to_.col - p.frm.col))) fun (b:List Act)=>K6 p (a++([b]:List (List Act)))) else K6 p a)
def K5 (p:Pth) (a:List (List Act)):List (List Act) :=
 (bif (decide ((0:Int)<(p.to_.col - p.frm.col))) then (B6 (Q6 2 (p.to_.col - p.frm.col)) fun (b:List Act)=>I6 p ((a++([([{Act.zero with kind:=22,n:=(p.to_.col+1)}]:List Act)]:List (List Act)))++([b]:List (List Act)))) else I6 p (a++([([{Act.zero with kind:=22,n:=(p.to_.col+1)}]:List Act)]:List (List Act))))
def I9 (p:Pth):List (List Act) :=
 (bif (decide ((p.to_.col - p.frm.col)=0)) then K5 p (([]:List (List Act))++([([]:List Act)]:List (List Act))) else K5 p ([]:List (List Act)))
theorem B7n (p:Pth) (g:0≤p.frm.col∧p.frm.col≤80∧0≤p.to_.col∧p.to_.col≤80) (c:List (List Act)) (h:∀ e ∈ c,mwA e):(∀ e ∈ I4 p c,mwA e)∧(I4 p c).length=c.length+1:=by
 have f:(P5 6 1).length≤50∧mwA (P5 6 1):=B4l rfl opx
 unfold I4 B6
 cases decide (p.to_.col=0) with
 | true=>exact ⟨fun e b=>by rcases List.mem_append.1 b with b | b;exact h e b;rw [List.mem_singleton.1 b];exact f.2,by simp⟩
 | false =>
  refine ⟨fun e b=>?_,by simp⟩
  rcases List.mem_append.1 b with b | b
  ·exact h e b
  ·rw [List.mem_singleton.1 b]
   refine ⟨?_,fun a d=>?_⟩
   ·rw [List.length_append,A7e,List.length_replicate];show 1+1≤50;omega
   ·rcases List.mem_append.1 d with d | d
    ·exact f.2.2 a d
    ·rw [List.mem_singleton.1 d];exact (B9t (n:=2) (m:=p.to_.col) opx).2 _ (List.mem_singleton.2 rfl)
theorem B7y (p:Pth) (c:0≤p.frm.col∧p.frm.col≤80∧0≤p.to_.col∧p.to_.col≤80) (a:List (List Act)) (h:∀ e ∈ a,mwA e):(∀ e ∈ K6 p a,mwA e)∧(K6 p a).length≤a.length+2:=by
 unfold K6 B6
 cases hc:((decide ((p.to_.col - p.frm.col)<0))&&(decide ((-(p.to_.col - p.frm.col))≤4))) with
 | true =>
  simp only [Bool.and_eq_true,decide_eq_true_eq] at hc
  have d:=B7n p c (a++[P5 3 (-(p.to_.col - p.frm.col))]) (fun e b=>by
   rcases List.mem_append.1 b with b | b
   ·exact h e b
   ·rw [List.mem_singleton.1 b];exact (B4l rfl opx).2)
  exact ⟨d.1,by have:=d.2;rw [List.length_append] at this;show (I4 p _).length≤_;rw [this];exact Nat.le_refl _⟩
 | false=>exact ⟨(B7n p c a h).1,by have:=(B7n p c a h).2;show (I4 p _).length≤_;omega⟩
theorem C8t {b:List (List Act)} (h:∀ e ∈ b,mwA e) {x:List Act} (c:mwA x):∀ e ∈ b++[x],mwA e:=fun e a=>by
 rcases List.mem_append.1 a with a | a
 ·exact h e a
 ·rw [List.mem_singleton.1 a];exact c
theorem B7g (p:Pth) (b:0≤p.frm.col∧p.frm.col≤80∧0≤p.to_.col∧p.to_.col≤80) (a:List (List Act)) (h:∀ e ∈ a,mwA e):(∀ e ∈ I6 p a,mwA e)∧(I6 p a).length≤a.length+3:=by
 unfold I6 B6
 cases hq:decide ((p.to_.col - p.frm.col)<0) with
 | true =>
  have c:=B7y p b (a++[Q6 3 (-(p.to_.col - p.frm.col))]) (C8t h (B9t (by have:=of_decide_eq_true hq;omega)))
  exact ⟨c.1,by have:=c.2;rw [List.length_append] at this;show (K6 p _).length≤_;exact this⟩
 | false=>exact ⟨(B7y p b a h).1,by have:=(B7y p b a h).2;show (K6 p _).length≤_;omega⟩
theorem B7m (p:Pth) (c:0≤p.frm.col∧p.frm.col≤80∧0≤p.to_.col∧p.to_.col≤80) (b:List (List Act)) (h:∀ e ∈ b,mwA e):(∀ e ∈ K5 p b,mwA e)∧(K5 p b).length≤b.length+5:=by
 have d:=C8t h (E3f (a:={Act.zero with kind:=22,n:=p.to_.col+1}) ⟨rfl,show -1000≤p.to_.col+1 by omega,show p.to_.col+1≤1000 by omega,show (-1000:Int)≤0 by omega,show (0:Int)≤1000 by omega,ogf,fun h=>absurd (show (22:Int)=20 from h) ozw⟩)
 unfold K5 B6
 cases hq:decide ((0:Int)<(p.to_.col - p.frm.col)) with
 | true =>
  have f:=B7g p c _ (C8t d (B9t (n:=2) (m:=p.to_.col - p.frm.col) (by have:=of_decide_eq_true hq;omega)))
  exact ⟨f.1,by have:=f.2;rw [List.length_append,List.length_append] at this;show (I6 p _).length≤_;exact this⟩
 | false=>exact ⟨(B7g p c _ d).1,by have:=(B7g p c _ d).2;rw [List.length_append] at this;show (I6 p _).length≤_;exact Nat.le_trans this oqd⟩
theorem C5w {p:Pth} {r:List (List Act)} (hr:I9 p=r) (c:0≤p.frm.col∧p.frm.col≤80∧0≤p.to_.col∧p.to_.col≤80):(∀ e ∈ r,mwA e)∧r.length≤6:=by
 subst hr;unfold I9
 cases decide ((p.to_.col - p.frm.col)=0) with
 | true=>exact B7m p c ([[]]:List (List Act)) (fun e b=>by rw [List.mem_singleton.1 b];exact ⟨Nat.le_of_ble_eq_true rfl,fun a d=>by cases d⟩)
 | false=>exact ⟨(B7m p c [] (fun e b=>by cases b)).1,Nat.le_trans (B7m p c [] (fun e b=>by cases b)).2 oom⟩
theorem B9b {p:Pth} {R:List (List Act)} (hR:I9 p=R) (hb:0≤p.frm.col∧p.frm.col≤80∧0≤p.to_.col∧p.to_.col≤80:=by exact bW):Con Tryz.prog 100 [ag (M1 p)] [] [] ({t:VR×List Slc // bT 1 R.length t.1∧B4 t.2 R}) (fun x=>.slice (va x.1.1.q) R.length x.1.1.k) (fun x=>((vo D9 31 x.1.1 x.1.2)++([]))) (fun x=>[D5 A0 x.1.2 R]):=by
 refine cC Tryz.func100 fun X hX hr hD=>?_
 replace hR:=(I9.eq_1 ..).symm.trans hR
 refine bS rfl (B0j 2 0 [] (fun o=>[(1,pt o 0)]) (fun o=>[bx o (M1 p) 138]) (fun o=>(ie (bS rfl (pl2 6 [0,0] 7 10 rfl (ix rfl (M4 rfl rfl rfl rfl opx) (bP 1 3 rfl (ie (bS rfl (bP 1 4 rfl ?_))))))))))
 refine ie (A7y (un fun (i:List (List Act))=>un fun (ad:VR) (d:List Slc)=>(K5 p i=R∧bT 1 i.length ad∧B4 d i∧i.length≤1,[(1,pt o 0),(3,iv (p.to_.col - p.frm.col)),(4,.slice (va ad.q) i.length ad.k)],(bx o (M1 p) 138::((vo D9 31 ad d)++([]))),[D5 A0 d i])) ?_ ?_)
 ·refine bS rfl (bP 2 13 rfl (ie ?_))
  refine zjd rfl hR ?_ ?_<;>clear hR<;>intro hR h2 cs
  ·refine A1 4 rfl (bP 1 14 rfl (it rfl (B1 (c:=D9) (xs:=([⟨none,0,0⟩]:List Slc)) A5b rfl rfl rfl oki) fun b3=>?_))
   have aq:B4 ([⟨none,0,0⟩]:List Slc) ([([]:List Act)]:List (List Act)):=(B4.cons ⟨ooy,oyh,oyh⟩ B4.none)
   refine D7 (q:=D5 A0 ([⟨none,0,0⟩]:List Slc) ([([]:List Act)]:List (List Act))) (M3 B0i H9) ?_
   have:([⟨none,0,0⟩]:List Slc).length=1:=rfl
   refine D7 (q:=D5 A0 [] ([]:List (List Act))) H9 ?_
   have ca:B4 (([]:List Slc)++([⟨none,0,0⟩]:List Slc)) (([]:List (List Act))++([([]:List Act)]:List (List Act))):=B4.append B4.none aq
   refine it rfl (J8 (r:=VR.nil) (rs:=([]:List Slc)) (xss:=([]:List (List Act))) (pre:=[bx o (M1 p) 138]) (post:=[]) B1y rfl rfl rfl rfl rfl rfl rfl rfl rfl (A5 2 rfl) (A5 0 rfl) (A5 1 rfl) B4.none aq bT.nil ohp ohp) fun ⟨r5,bl⟩=>?_
   have:=bT.le bl
   have:=bT.cap bl
   have:([]:List (List Act)).length=0:=rfl
   have:([([]:List Act)]:List (List Act)).length=1:=rfl
   have:(([]:List (List Act))++([([]:List Act)]:List (List Act))).length=([]:List (List Act)).length+1:=List.length_append
   refine bP 1 4 rfl (A2 ?_)
   exact W8 ((([]:List (List Act))++([([]:List Act)]:List (List Act))),r5,(([]:List Slc)++([⟨none,0,0⟩]:List Slc))) ⟨hR,bl,ca,ozq⟩ bU cB
  refine A4 (Y0 (I1 [vo D9 31 VR.nil ([]:List Slc),[bx o (M1 p) 138]] [1,0] 2 rfl ozw rfl [[bx o (M1 p) 138],vo D9 31 VR.nil ([]:List Slc)] rfl opv) ?_)
  exact W8 (([]:List (List Act)),VR.nil,([]:List Slc)) ⟨hR,bT.nil,B4.none,ozq⟩ bU cB
 rintro ⟨i,ad,d⟩
 rintro ⟨hR,b7,a4,hj⟩
 replace hR:=(K5.eq_1 ..).symm.trans hR
 refine bS rfl (pl2 4 [0] 17 20 rfl (ix rfl (B3 rfl rfl rfl rfl opx) (c9 1 4 [] [(22,ag (A0 ({Act.zero with kind:=22,n:=(p.to_.col+1)})))] (it rfl (B1 (c:=A0) (xs:=([{Act.zero with kind:=22,n:=(p.to_.col+1)}]:List Act)) Q1 rfl rfl rfl oki) fun b8=>?_))))
 have:([{Act.zero with kind:=22,n:=(p.to_.col+1)}]:List Act).length=1:=rfl
 refine it rfl (B1 (c:=D9) (xs:=([⟨some ⟨b8,0,none⟩,1,1⟩]:List Slc)) A5b rfl rfl rfl oki) fun b9=>?_
 have ai:B4 ([⟨some ⟨b8,0,none⟩,1,1⟩]:List Slc) ([([{Act.zero with kind:=22,n:=(p.to_.col+1)}]:List Act)]:List (List Act)):=(B4.cons ⟨ooy,oyh,oyh⟩ B4.none)
 refine D7 (q:=D5 A0 ([⟨some ⟨b8,0,none⟩,1,1⟩]:List Slc) ([([{Act.zero with kind:=22,n:=(p.to_.col+1)}]:List Act)]:List (List Act))) (M3 (A5 1 rfl) H9) ?_
 have:([⟨some ⟨b8,0,none⟩,1,1⟩]:List Slc).length=1:=rfl
 have bd:B4 (d++([⟨some ⟨b8,0,none⟩,1,1⟩]:List Slc)) (i++([([{Act.zero with kind:=22,n:=(p.to_.col+1)}]:List Act)]:List (List Act))):=B4.append a4 ai
 refine it rfl (J8 (r:=ad) (rs:=d) (xss:=i) (pre:=[bx o (M1 p) 138]) (post:=[]) B1y rfl rfl rfl rfl rfl rfl rfl rfl rfl (A5 1 rfl) (A5 3 rfl) (A5 0 rfl) a4 ai b7 ohp ohp) fun ⟨c0,au⟩=>?_
 have:=bT.le au
 have:=bT.cap au
 have:([([{Act.zero with kind:=22,n:=(p.to_.col+1)}]:List Act)]:List (List Act)).length=1:=rfl
 have:(i++([([{Act.zero with kind:=22,n:=(p.to_.col+1)}]:List Act)]:List (List Act))).length=i.length+1:=List.length_append
 refine bP 1 4 rfl ?_
 refine ie (A7y (un fun (j:List (List Act))=>un fun (z:VR) (g:List Slc)=>(I6 p j=R∧bT 1 j.length z∧B4 g j∧j.length≤3,[(1,pt o 0),(3,iv (p.to_.col - p.frm.col)),(4,.slice (va z.q) j.length z.k)],(bx o (M1 p) 138::((vo D9 31 z g)++([]))),[D5 A0 (d++([⟨some ⟨b8,0,none⟩,1,1⟩]:List Slc)) (i++([([{Act.zero with kind:=22,n:=(p.to_.col+1)}]:List Act)]:List (List Act))),D5 A0 ([⟨some ⟨b8,0,none⟩,1,1⟩]:List Slc) ([([{Act.zero with kind:=22,n:=(p.to_.col+1)}]:List Act)]:List (List Act)),sl D9 (some ⟨b9,0,none⟩) ([⟨some ⟨b8,0,none⟩,1,1⟩]:List Slc),sl A0 (some ⟨b8,0,none⟩) ([{Act.zero with kind:=22,n:=(p.to_.col+1)}]:List Act),D5 A0 d i,D5 A0 g j])) ?_ ?_)
 ·refine bS rfl (bP 2 27 rfl (ie ?_))
  refine zjd rfl hR ?_ ?_<;>clear hR<;>intro hR cn ce
  ·refine A1 6 rfl (cG 2 28 29 rfl ?_)
   have hQ:=C4 hR;clear hR;obtain ⟨y1,bn,hR⟩:=hQ
   refine zc rfl (A8f bn) fun ⟨⟨av,aw⟩,bu⟩=>?_
   obtain ⟨ch,cm⟩:=bu
   have:y1.length=1:=by rw [← bn];rfl
   refine it rfl (B1 (c:=D9) (xs:=([⟨av,y1.length,aw⟩]:List Slc)) A5b rfl rfl rfl oki) fun co=>?_
   have an:B4 ([⟨av,y1.length,aw⟩]:List Slc) ([y1]:List (List Act)):=(B4.cons ⟨ooy,oyh,oyh⟩ B4.none)
   refine D7 (q:=D5 A0 ([⟨av,y1.length,aw⟩]:List Slc) ([y1]:List (List Act))) (M3 (A5 1 rfl) H9) ?_
   have:([⟨av,y1.length,aw⟩]:List Slc).length=1:=rfl
   have bz:B4 ((d++([⟨some ⟨b8,0,none⟩,1,1⟩]:List Slc))++([⟨av,y1.length,aw⟩]:List Slc)) ((i++([([{Act.zero with kind:=22,n:=(p.to_.col+1)}]:List Act)]:List (List Act)))++([y1]:List (List Act))):=B4.append bd an
   refine it rfl (J8 (r:=c0) (rs:=(d++([⟨some ⟨b8,0,none⟩,1,1⟩]:List Slc))) (xss:=(i++([([{Act.zero with kind:=22,n:=(p.to_.col+1)}]:List Act)]:List (List Act)))) (pre:=[bx o (M1 p) 138]) (post:=[]) B1y rfl rfl rfl rfl rfl rfl rfl rfl rfl (A5 1 rfl) (A5 3 rfl) (A5 0 rfl) bd an au ohp ohp) fun ⟨cb,ba⟩=>?_
   have:=bT.le ba
   have:=bT.cap ba
   have:([y1]:List (List Act)).length=1:=rfl
   have:((i++([([{Act.zero with kind:=22,n:=(p.to_.col+1)}]:List Act)]:List (List Act)))++([y1]:List (List Act))).length=(i++([([{Act.zero with kind:=22,n:=(p.to_.col+1)}]:List Act)]:List (List Act))).length+1:=List.length_append
   refine bP 1 4 rfl (A2 ?_)
   exact W8 (((i++([([{Act.zero with kind:=22,n:=(p.to_.col+1)}]:List Act)]:List (List Act)))++([y1]:List (List Act))),cb,((d++([⟨some ⟨b8,0,none⟩,1,1⟩]:List Slc))++([⟨av,y1.length,aw⟩]:List Slc))) ⟨hR,ba,bz,ozq⟩ bU cB
  refine A4 ?_
  exact W8 ((i++([([{Act.zero with kind:=22,n:=(p.to_.col+1)}]:List Act)]:List (List Act))),c0,(d++([⟨some ⟨b8,0,none⟩,1,1⟩]:List Slc))) ⟨hR,au,bd,ozq⟩ bU cB
 rintro ⟨j,z,g⟩
 rintro ⟨hR,ae,s,hj⟩
 replace hR:=(I6.eq_1 ..).symm.trans hR
 refine A7y (un fun (m:List (List Act))=>un fun (w:VR) (e:List Slc)=>(K6 p m=R∧bT 1 m.length w∧B4 e m∧m.length≤4,[(1,pt o 0),(3,iv (p.to_.col - p.frm.col)),(4,.slice (va w.q) m.length w.k)],(bx o (M1 p) 138::((vo D9 31 w e)++([]))),[D5 A0 (d++([⟨some ⟨b8,0,none⟩,1,1⟩]:List Slc)) (i++([([{Act.zero with kind:=22,n:=(p.to_.col+1)}]:List Act)]:List (List Act))),D5 A0 ([⟨some ⟨b8,0,none⟩,1,1⟩]:List Slc) ([([{Act.zero with kind:=22,n:=(p.to_.col+1)}]:List Act)]:List (List Act)),sl D9 (some ⟨b9,0,none⟩) ([⟨some ⟨b8,0,none⟩,1,1⟩]:List Slc),sl A0 (some ⟨b8,0,none⟩) ([{Act.zero with kind:=22,n:=(p.to_.col+1)}]:List Act),D5 A0 d i,D5 A0 g j,D5 A0 e m])) ?_ ?_
 ·refine bS rfl (bP 2 34 rfl (ie ?_))
  refine zjd rfl hR ?_ ?_<;>clear hR<;>intro hR cr cl
  ·refine A1 7 rfl (cG 2 35 36 rfl (ix rfl (C0r rfl rfl rfl opx) ?_))
   have hQ:=C4 hR;clear hR;obtain ⟨y5,bo,hR⟩:=hQ
   refine zc rfl (A8f bo) fun ⟨⟨b0,b2⟩,c1⟩=>?_
   obtain ⟨cc,ck⟩:=c1
   have:y5.length=1:=by rw [← bo];rfl
   refine it rfl (B1 (c:=D9) (xs:=([⟨b0,y5.length,b2⟩]:List Slc)) A5b rfl rfl rfl oki) fun ct=>?_
   have ak:B4 ([⟨b0,y5.length,b2⟩]:List Slc) ([y5]:List (List Act)):=(B4.cons ⟨ooy,oyh,oyh⟩ B4.none)
   refine D7 (q:=D5 A0 ([⟨b0,y5.length,b2⟩]:List Slc) ([y5]:List (List Act))) (M3 (A5 1 rfl) H9) ?_
   have:([⟨b0,y5.length,b2⟩]:List Slc).length=1:=rfl
   have bp:B4 (g++([⟨b0,y5.length,b2⟩]:List Slc)) (j++([y5]:List (List Act))):=B4.append s ak
   refine it rfl (J8 (r:=z) (rs:=g) (xss:=j) (pre:=[bx o (M1 p) 138]) (post:=[]) B1y rfl rfl rfl rfl rfl rfl rfl rfl rfl (A5 1 rfl) (A5 8 rfl) (A5 0 rfl) s ak ae ohp ohp) fun ⟨c4,bb⟩=>?_
   have:=bT.le bb
   have:=bT.cap bb
   have:([y5]:List (List Act)).length=1:=rfl
   have:(j++([y5]:List (List Act))).length=j.length+1:=List.length_append
   refine bP 1 4 rfl (A2 ?_)
   exact W8 ((j++([y5]:List (List Act))),c4,(g++([⟨b0,y5.length,b2⟩]:List Slc))) ⟨hR,bb,bp,ozq⟩ bU cB
  refine A4 ?_
  exact W8 (j,z,g) ⟨hR,ae,s,ozq⟩ bU cB
 rintro ⟨m,w,e⟩
 rintro ⟨hR,aa,u,hj⟩
 replace hR:=(K6.eq_1 ..).symm.trans hR
 refine A7y (un fun (h:List (List Act))=>un fun (b:VR) (a:List Slc)=>(I4 p h=R∧bT 1 h.length b∧B4 a h∧h.length≤5,[(1,pt o 0),(4,.slice (va b.q) h.length b.k)],(bx o (M1 p) 138::((vo D9 31 b a)++([]))),[D5 A0 (d++([⟨some ⟨b8,0,none⟩,1,1⟩]:List Slc)) (i++([([{Act.zero with kind:=22,n:=(p.to_.col+1)}]:List Act)]:List (List Act))),D5 A0 ([⟨some ⟨b8,0,none⟩,1,1⟩]:List Slc) ([([{Act.zero with kind:=22,n:=(p.to_.col+1)}]:List Act)]:List (List Act)),sl D9 (some ⟨b9,0,none⟩) ([⟨some ⟨b8,0,none⟩,1,1⟩]:List Slc),sl A0 (some ⟨b8,0,none⟩) ([{Act.zero with kind:=22,n:=(p.to_.col+1)}]:List Act),D5 A0 d i,D5 A0 g j,D5 A0 e m,D5 A0 a h])) ?_ ?_
 ·refine bS rfl (bP 3 43 rfl ?_)
  refine zid 4 0 43 47 (decide ((-(p.to_.col - p.frm.col))≤4)) (fun c5 cf=>?_) ?_
  ·refine bP 1 44 rfl (ix rfl (C0r rfl rfl rfl opx) (bP 2 47 rfl ?_))
   exact A2 (J0 4 43 47 c5 A7.refl bU rfl rfl rfl rfl rfl)
  refine ie ?_
  refine zja rfl hR ?_ ?_<;>clear hR<;>intro hR cw cg
  ·refine A1 7 rfl (cG 2 48 49 rfl (ix rfl (C0r rfl rfl rfl opx) ?_))
   have hQ:=C4 hR;clear hR;obtain ⟨y0,bj,hR⟩:=hQ
   refine zc rfl (B1s bj) fun ⟨a0,al⟩=>?_
   have:=bT.le al
   have:=bT.cap al
   have a6:=B4l bj opx
   have:=a6.1;try rw [bj] at this
   have:=bT.cap al
   have:=bT.le al
   refine R5 [bx o (M1 p) 138] ((vo D9 31 w e)++([])) (T:=54) (c:=A0) (r:=a0) (xs:=y0) al oll ?_
   refine it rfl (B1 (c:=D9) (xs:=([⟨va a0.q,y0.length,a0.k⟩]:List Slc)) A5b rfl rfl rfl oki) fun cv=>?_
   have aj:B4 ([⟨va a0.q,y0.length,a0.k⟩]:List Slc) ([y0]:List (List Act)):=(B4.cons ⟨ooy,oyh,oyh⟩ B4.none)
   refine D7 (q:=D5 A0 ([⟨va a0.q,y0.length,a0.k⟩]:List Slc) ([y0]:List (List Act))) (M3 (A5 1 rfl) H9) ?_
   have:([⟨va a0.q,y0.length,a0.k⟩]:List Slc).length=1:=rfl
   have br:B4 (e++([⟨va a0.q,y0.length,a0.k⟩]:List Slc)) (m++([y0]:List (List Act))):=B4.append u aj
   refine it rfl (J8 (r:=w) (rs:=e) (xss:=m) (pre:=[bx o (M1 p) 138]) (post:=[]) B1y rfl rfl rfl rfl rfl rfl rfl rfl rfl (A5 1 rfl) (A5 9 rfl) (A5 0 rfl) u aj aa ohp ohp) fun ⟨c8,b5⟩=>?_
   have:=bT.le b5
   have:=bT.cap b5
   have:([y0]:List (List Act)).length=1:=rfl
   have:(m++([y0]:List (List Act))).length=m.length+1:=List.length_append
   refine bP 1 4 rfl (A2 ?_)
   exact W8 ((m++([y0]:List (List Act))),c8,(e++([⟨va a0.q,y0.length,a0.k⟩]:List Slc))) ⟨hR,b5,br,ozq⟩ bU cB
  refine A4 ?_
  exact W8 (m,w,e) ⟨hR,aa,u,ozq⟩ bU cB
 rintro ⟨h,b,a⟩
 rintro ⟨hR,ab,l,hj⟩
 replace hR:=(I4.eq_1 ..).symm.trans hR
 refine A3 (bS rfl (cF 4 [0] 57 rfl ?_))
 refine ie ?_
 refine zjd rfl hR ?_ ?_<;>clear hR<;>intro hR cq ci
 ·refine bS rfl (bP 1 58 rfl ?_)
  have hQ:=C4 hR;clear hR;obtain ⟨y8,bk,hR⟩:=hQ
  refine zc rfl (B1s bk) fun ⟨a2,am⟩=>?_
  have:=bT.le am
  have:=bT.cap am
  have a1:=B4l bk opx
  have:=a1.1;try rw [bk] at this
  have:=bT.cap am
  have:=bT.le am
  refine R5 [bx o (M1 p) 138] ((vo D9 31 b a)++([])) (T:=54) (c:=A0) (r:=a2) (xs:=y8) am oll ?_
  refine it rfl (B1 (c:=D9) (xs:=([⟨va a2.q,y8.length,a2.k⟩]:List Slc)) A5b rfl rfl rfl oki) fun cp=>?_
  have af:B4 ([⟨va a2.q,y8.length,a2.k⟩]:List Slc) ([y8]:List (List Act)):=(B4.cons ⟨ooy,oyh,oyh⟩ B4.none)
  refine D7 (q:=D5 A0 ([⟨va a2.q,y8.length,a2.k⟩]:List Slc) ([y8]:List (List Act))) (M3 (A5 1 rfl) H9) ?_
  have:([⟨va a2.q,y8.length,a2.k⟩]:List Slc).length=1:=rfl
  have bw:B4 (a++([⟨va a2.q,y8.length,a2.k⟩]:List Slc)) (h++([y8]:List (List Act))):=B4.append l af
  refine it rfl (J8 (r:=b) (rs:=a) (xss:=h) (pre:=[bx o (M1 p) 138]) (post:=[]) B1y rfl rfl rfl rfl rfl rfl rfl rfl rfl (A5 1 rfl) (A5 10 rfl) (A5 0 rfl) l af ab ohp ohp) fun ⟨c7,bc⟩=>?_
  have:=bT.le bc
  have:=bT.cap bc
  have:([y8]:List (List Act)).length=1:=rfl
  have:(h++([y8]:List (List Act))).length=h.length+1:=List.length_append
  refine bP 1 2 rfl ?_
  subst hR
  refine ie (A8 ?_)
  exact cD hr hD (K7 rfl (A6 rfl)) ⟨(c7,(a++([⟨va a2.q,y8.length,a2.k⟩]:List Slc))),⟨bc,bw⟩⟩ bU cB
 refine A4 (nx ?_)
 refine sh 10 [(10,[bx o (M1 p) 138]),(8,vo D9 31 b a)] [D5 A0 (d++([⟨some ⟨b8,0,none⟩,1,1⟩]:List Slc)) (i++([([{Act.zero with kind:=22,n:=(p.to_.col+1)}]:List Act)]:List (List Act))),D5 A0 ([⟨some ⟨b8,0,none⟩,1,1⟩]:List Slc) ([([{Act.zero with kind:=22,n:=(p.to_.col+1)}]:List Act)]:List (List Act)),sl D9 (some ⟨b9,0,none⟩) ([⟨some ⟨b8,0,none⟩,1,1⟩]:List Slc),sl A0 (some ⟨b8,0,none⟩) ([{Act.zero with kind:=22,n:=(p.to_.col+1)}]:List Act),D5 A0 d i,D5 A0 g j,D5 A0 e m,D5 A0 a h] (bx o (M1 p) 138::((vo D9 31 b a)++([]))) (cA 10 0) oki rfl oki oki oki bU A7.refl ?_
 refine zhp [0,2,3] 7 (cA 10 13) [(62,.slice (va b.q) h.length b.k),(65,pt o 4)] ?_
 refine zhl 4 [bx o (M1 p) 138] (cA 10 29) rfl (C1 (v:=iv p.to_.col) cH rfl rfl 0 rfl rfl) ?_
 have hQ:=C4 hR;clear hR;obtain ⟨y4,bg,hR⟩:=hQ
 refine zho 1 (bx o (M1 p) 138::((vo D9 31 b a)++([]))) (cA 10 31) rfl (L6 (L2:=(bx o (M1 p) 138::((vo D9 31 b a)++([])))) (B1s bg) rfl rfl rfl rfl rfl bX (List.Perm.refl _) (fun ⟨a9,a7⟩=>(bx o (M1 p) 138::((vo A0 54 a9 y4)++((vo D9 31 b a)++([]))))) (fun ⟨a9,a7⟩=>I1 [vo A0 54 a9 y4,[bx o (M1 p) 138],vo D9 31 b a] [1,0,2] 3 rfl ozw opv [[bx o (M1 p) 138],vo A0 54 a9 y4,vo D9 31 b a] rfl opv)) (fun ⟨a9,a7⟩=>bU) (fun ⟨a9,a7⟩=>A7.refl) fun ⟨a9,a7⟩=>?_
 have:=bT.le a7
 have:=bT.cap a7
 have a3:=B4l bg opx
 have:=a3.1;try rw [bg] at this
 have hQ:=C4 hR;clear hR;obtain ⟨y7,bm,hR⟩:=hQ
 refine zho 5 (bx o (M1 p) 138::((vo D9 31 b a)++([]))) (cA 10 63) rfl (H1 (L2:=(bx o (M1 p) 138::((vo A0 54 a9 y4)++((vo D9 31 b a)++([]))))) (A8f bm) rfl rfl rfl rfl rfl bX (List.Perm.refl _) (fun ⟨⟨bh,bi⟩,ar⟩=>(bx o (M1 p) 138::((vo A0 54 a9 y4)++((vo D9 31 b a)++([]))))) (fun _=>by first|rfl|simp)) (fun ⟨⟨bh,bi⟩,ar⟩=>bU) (fun ⟨⟨bh,bi⟩,ar⟩=>cB) fun ⟨⟨bh,bi⟩,ar⟩=>?_
 obtain ⟨cd,cj⟩:=ar
 have:y7.length=1:=by rw [← bm];rfl
 refine zho 6 (bx o (M1 p) 138::((vo D9 31 b a)++([]))) (cA 10 127) rfl (A4i (f:=A0) (r:=a9) (xs:=y4) (ys:=y7) (pre:=[bx o (M1 p) 138]) (post:=((vo D9 31 b a)++([]))) A4u (fun _=>rfl) (fun _=>rfl) rfl rfl rfl rfl rfl rfl rfl rfl (A5 0 rfl) a7 ohp ohp) (fun ⟨y,a8⟩=>bU) (fun ⟨y,a8⟩=>cB) fun ⟨y,a8⟩=>?_
 have:=@List.length_append _ y4 y7
 have:=bT.le a8
 have:=bT.cap a8
 have:=bT.cap a8
 have:=bT.le a8
 refine E2y [bx o (M1 p) 138] ((vo D9 31 b a)++([])) (T:=54) (c:=A0) (r:=y) (xs:=(y4++y7)) a8 oll (bx o (M1 p) 138::((vo D9 31 b a)++([]))) rfl bU ?_
 refine zho 7 (bx o (M1 p) 138::((vo D9 31 b a)++([]))) (cA 10 255) rfl (B1 (c:=D9) (xs:=([⟨va y.q,(y4++y7).length,y.k⟩]:List Slc)) A5b rfl rfl rfl oki) (fun bq=>bU) (fun bq=>cB) fun bq=>?_
 have ah:B4 ([⟨va y.q,(y4++y7).length,y.k⟩]:List Slc) ([(y4++y7)]:List (List Act)):=(B4.cons ⟨ooy,oyh,oyh⟩ B4.none)
 refine D1u (q:=D5 A0 ([⟨va y.q,(y4++y7).length,y.k⟩]:List Slc) ([(y4++y7)]:List (List Act))) (M3 (A5 1 rfl) H9) ?_
 have:([⟨va y.q,(y4++y7).length,y.k⟩]:List Slc).length=1:=rfl
 have c2:B4 (a++([⟨va y.q,(y4++y7).length,y.k⟩]:List Slc)) (h++([(y4++y7)]:List (List Act))):=B4.append l ah
 refine zho 8 [bx o (M1 p) 138] (cA 10 511) rfl (J8 (r:=b) (rs:=a) (xss:=h) (pre:=[bx o (M1 p) 138]) (post:=[]) B1y rfl rfl rfl rfl rfl rfl rfl rfl rfl (A5 1 rfl) (A5 11 rfl) (A5 0 rfl) l ah ab ohp ohp) (fun ⟨b6,ao⟩=>bU) (fun ⟨b6,ao⟩=>cB) fun ⟨b6,ao⟩=>?_
 have:=bT.le ao
 have:=bT.cap ao
 have:([(y4++y7)]:List (List Act)).length=1:=rfl
 have:(h++([(y4++y7)]:List (List Act))).length=h.length+1:=List.length_append
 refine zhp [9] 0 (cA 10 1023) [(2,.slice (va b6.q) ((h++([(y4++y7)]:List (List Act))).length) b6.k)] ?_
 refine B4u oki ?_
 subst hR
 refine A8 ?_
 exact cD hr hD (K7 rfl (A6 rfl)) ⟨(b6,(a++([⟨va y.q,(y4++y7).length,y.k⟩]:List Slc))),⟨ao,c2⟩⟩ bU cB
def G8 (c0:Pth) (b:List Act) (a:List (List Act)):List (List Act)→Nat→List (List Act)
 | [],t16=>a
 | hd_l2::tl_l2,t16=>(bif ((decide (((b++hd_l2).length:Int)=0))&&c0.frm.wrap) then G8 c0 b a tl_l2 (t16+1) else ((b++hd_l2)::G8 c0 b a tl_l2 (t16+1)))
def E9 (c0:Pth):List (List Act)→List (List Act)
 | []=>(([{Act.zero with kind:=19,n:=(c0.to_.row+1),m:=(c0.to_.col+1)}]:List Act)::[])
 | el::rest=>(B6 (I9 c0) fun (a:List (List Act))=>G8 c0 el (E9 c0 rest) a 0)
def H3 (c0:Pth):List (List Act) :=
 E9 c0 (H0 (B8 c0))
theorem D0c (c0:Pth) (g:List Act) (f:mwA g) (ag:List (List Act)) (i:∀ e ∈ ag,C0b e):∀ (l:List (List Act)) (d:∀ e ∈ l,mwA e) (b:Nat),(∀ e ∈ G8 c0 g ag l b,C0b e)∧(G8 c0 g ag l b).length≤l.length+ag.length
 | [],_,b=>⟨i,by rw [G8];simp⟩
 | x::l,d,b=>by
  have j:=D0c c0 g f ag i l (fun e c=>d e (List.mem_cons_of_mem _ c)) (b+1)
  rw [G8]
  cases ((decide (((g++x).length:Int)=0))&&c0.frm.wrap) with
  | true=>exact ⟨j.1,by have:=j.2;simp only [cond_true,List.length_cons];omega⟩
  | false =>
   refine ⟨fun e c=>?_,by have:=j.2;simp only [cond_false,List.length_cons];omega⟩
   rcases List.mem_cons.1 c with c | c
   ·rw [c]
    have k:mwA x:=d x (List.mem_cons_self ..)
    exact ⟨by rw [List.length_append];have:=f.1;have:=k.1;omega,fun a h=>by rcases List.mem_append.1 h with h | h;exact f.2 a h;exact k.2 a h⟩
   ·exact j.1 e c
theorem D0q (c0:Pth) (f:(0≤c0.frm.row∧c0.frm.row≤40∧0≤c0.to_.row∧c0.to_.row≤40)∧(0≤c0.frm.col∧c0.frm.col≤80∧0≤c0.to_.col∧c0.to_.col≤80)):∀ (l:List (List Act)),(∀ e ∈ l,mwA e)→(∀ e ∈ E9 c0 l,C0b e)∧(E9 c0 l).length≤6 * l.length+1
 | [],_=>⟨fun e b=>by
   rw [E9] at b
   rw [List.mem_singleton.1 b];exact ⟨Nat.le_of_ble_eq_true rfl,fun a i=>by rw [List.mem_singleton.1 i];exact ⟨rfl,show -1000≤c0.to_.row+1 by omega,show c0.to_.row+1≤1000 by omega,show -1000≤c0.to_.col+1 by omega,show c0.to_.col+1≤1000 by omega,ogf,fun h=>absurd (show (19:Int)=20 from h) ozw⟩⟩,by rw [E9];exact Nat.le_refl _⟩
 | el::rest,h=>by
  have d:=D0q c0 f rest (fun e b=>h e (List.mem_cons_of_mem _ b))
  have c:=C5w (p:=c0) rfl f.2
  have g:=D0c c0 el (h el (List.mem_cons_self ..)) _ d.1 (I9 c0) c.1 0
  rw [E9];unfold B6
  exact ⟨g.1,by have:=g.2;have:=d.2;have:=c.2;simp only [List.length_cons];omega⟩
theorem C4n {c0:Pth} (hb:(0≤c0.frm.row∧c0.frm.row≤40∧0≤c0.to_.row∧c0.to_.row≤40)∧(0≤c0.frm.col∧c0.frm.col≤80∧0≤c0.to_.col∧c0.to_.col≤80)):(∀ e ∈ H3 c0,C0b e)∧(H3 c0).length≤13:=by
 have h:=D0q c0 hb (H0 c0) (C9h c0 hb.1)
 have:=D7r c0
 exact ⟨h.1,by have:=h.2;show (E9 c0 (H0 c0)).length≤13;omega⟩
theorem C0g (c0:Pth) (j:Addr) (hb:(0≤c0.frm.row∧c0.frm.row≤40∧0≤c0.to_.row∧c0.to_.row≤40)∧(0≤c0.frm.col∧c0.frm.col≤80∧0≤c0.to_.col∧c0.to_.col≤80)) (R:List (List Act)) (hR:H3 c0=R):B6s Tryz.prog 99 [pa j] [] [at_ j (M1 c0)] A0 R:=by
 refine C2q _ (n:=53) Tryz.func99 rfl oki rfl rfl (fun l=>[(0,_),(1,_)]) (fun l=>⟨rfl,rfl,trivial⟩) fun X l I Ix L Φ hX hr hD hI0 hY=>?_
 replace hR:=(H3.eq_1 ..).symm.trans hR
 refine sr 1 rfl (B0j 1 0 [] (fun g=>[(2,pt g 0)]) (fun g=>(bx g [.func (.yield l) #[] #[]] 185::(L++([])))) (fun g=>(ie (sr 4 rfl (ix rfl (K3 F1i rfl rfl (A5 0 rfl) rfl) ?_)))))
 refine B0j 3 0 [0] (fun h=>[(3,pt h 0)]) (fun h=>(bx h [.func (.func 100) #[ag (M1 c0)] #[]] 186::bx g [.func (.yield l) #[] #[]] 185::(L++([])))) (fun h=>?_)
 refine ie (A3 (sr 2 rfl (ix rfl (K3 F1i rfl rfl (A5 0 rfl) rfl) ?_)))
 refine zcm (C2w rfl) bX fun b3=>?_
 refine ie (A9 (D0f [(1,_),(2,_),(3,_),(11,_)] ⟨rfl,rfl,rfl,rfl,trivial⟩ ?_))
 refine D4c hr rfl (C0c _ _ (by first|exact hb.1|(dsimp only;omega)) _ rfl) (A7.cons (A5 0 rfl) bX) rfl rfl (fun w x=>E9 _ w=x.1∧I x.1 x.2.1 x.2.2∧(∀ e ∈ w,mwA e)) (fun c x=>c=.ret∧Ix x.2.1 x.2.2) (fun x=>(bx h _ _::bx g _ _::(x.2.1++([])))) (fun x=>(at_ _ _::at_ j _::x.2.2)) (R,L,_) (by exact ⟨hR,hI0,(by exact C9h c0 hb.1)⟩) (mc [[_],[_],L] [true,true,true] rfl oxs) (A7.con1 (A5 0 rfl) (A7.con1 (A5 1 rfl) (A7.dropT 2 rfl))) ?_ ?_ ?_
 ·rintro u rest ⟨R_,Lt,Ft⟩ a2 ai b8 b5 hI Y Y' K' bb hK
  try dsimp only at hI
  obtain ⟨hR,a1,ad⟩:=hI
  replace hR:=(E9.eq_2 ..).symm.trans hR
  refine A1 1 rfl (ip' 1 0 [(4,.slice a2 u.length ai)] (A2 (hK _ _ _ ?_)))
  refine A9 (sr 4 rfl (c9 1 3 [0] [(13,.func (.func 100) #[ag (M1 c0)] #[])] ?_))
  have hQ:=C4 hR;clear hR;obtain ⟨o,ae,hR⟩:=hQ
  refine it rfl (L6 (L2:=(bx h [.func (.func 100) #[ag (M1 c0)] #[]] 186::bx g [.func (.yield l) #[] #[]] 185::(Lt++([])))) (B9b (p:=c0) ae (by first|exact hb.2|(dsimp only;omega))) rfl rfl rfl rfl rfl bX (List.Perm.refl _) (fun ⟨⟨r7,b⟩,a0⟩=>(bx h [.func (.func 100) #[ag (M1 c0)] #[]] 186::bx g [.func (.yield l) #[] #[]] 185::(Lt++((vo D9 31 r7 b)++([]))))) (fun ⟨⟨r7,b⟩,a0⟩=>I1 [vo D9 31 r7 b,[bx h [.func (.func 100) #[ag (M1 c0)] #[]] 186],[bx g [.func (.yield l) #[] #[]] 185],Lt] [1,2,3,0] 4 rfl ozw opv [[bx h [.func (.func 100) #[ag (M1 c0)] #[]] 186],[bx g [.func (.yield l) #[] #[]] 185],Lt,vo D9 31 r7 b] rfl opv)) fun ⟨⟨r7,b⟩,a0⟩=>?_
  try dsimp only at a0
  obtain ⟨af,i⟩:=a0
  have:=bT.le af
  have:=i.1
  have am:=C5w ae (by first|exact hb.2|(dsimp only;omega))
  have:=am.2;try rw [ae] at this
  refine R5 (bx h [.func (.func 100) #[ag (M1 c0)] #[]] 186::bx g [.func (.yield l) #[] #[]] 185::(Lt++([]))) [] (T:=31) (c:=D9) (bT.cast af (by rw [i.1])) oll ?_
  refine B4m (L':=(bx h [.func (.func 100) #[ag (M1 c0)] #[]] 186::bx g [.func (.yield l) #[] #[]] 185::(Lt++([])))) opv ?_
  refine ip' 2 0 [(15,iv o.length),(16,iv 0)] (ie (A9 ?_))
  refine E8k (fun a R_1 Lt1 Ft1=>(a≤o.length∧G8 _ u _ (o.drop a) a=R_1∧I R_1 Lt1 Ft1,[(1,_),(2,_),(3,_),(4,_),(11,_),(14,.slice (va r7.q) _ r7.k),(15,_),(16,iv a)],(bx h _ _::bx g _ _::(Lt1++([]))),(sl _ _ b::D5 _ b o::sl _ _ u::at_ _ _::at_ j _::Ft1),o.length - a)) 0 _ _ _ ⟨opx,hR,a1⟩ (mc [[bx h [.func (.func 100) #[ag (M1 c0)] #[]] 186],[bx g [.func (.yield l) #[] #[]] 185],Lt] [true,true,true] rfl oxs) (A7.con1 (A5 0 rfl) (A7.con1 (A5 1 rfl) (A7.con1 (A5 2 rfl) (A7.con1 (A5 3 rfl) (A7.con1 (A5 4 rfl) (A7.dropT 5 rfl)))))) ?_
  rintro a R_1 Lt1 Ft1 ⟨ax,hR,t⟩
  have az:=(ad u (List.mem_cons_self ..)).1
  have aw:=C9k am.1 a
  refine sr 1 rfl (ip' 1 0 [(17,bv (decide (a<(o.length:Int))))] ?_)
  refine ie (A3 (G4 rfl (fun ab=>?_) (fun ab=>?_)))
  ·have a9:(a:Int)<(o.length:Int):=by simpa using ab
   rw [A1b [] (show a<o.length by omega)] at hR;replace hR:=(G8.eq_2 ..).symm.trans hR
   refine A4 (nx (A3 (A9 (sr 3 rfl (K8 0 rfl (by have:=i.1;omega) fun b0 a4=>(D7 (V8 (k:=a) (d:=⟨none,0,0⟩) i 1 rfl (by have:=i.1;omega)) ?_))))))
   refine ix rfl (F8 A5b rfl rfl a4 rfl a rfl opx) (ix rfl (H8 (C9 (v:=.slice ((b.getD a (⟨none,0,0⟩:Slc)).q) ((b.getD a (⟨none,0,0⟩:Slc)).n) ((b.getD a (⟨none,0,0⟩:Slc)).k)) (us:=[.slice ((b.getD a (⟨none,0,0⟩:Slc)).q) ((b.getD a (⟨none,0,0⟩:Slc)).n) ((b.getD a (⟨none,0,0⟩:Slc)).k)]) C1v rfl rfl (H2 (c:=D9) (sz:=1) a4 (fun _=>rfl) 1 rfl (gd (⟨none,0,0⟩:Slc) (by have:=i.1;omega))) rfl) (U4 i (by have:=i.1;omega))) (ip' 1 0 [(6,.slice ((b.getD a (⟨none,0,0⟩:Slc)).q) ((o.getD a []).length) ((b.getD a (⟨none,0,0⟩:Slc)).k))] (ie (sr 9 rfl (ip' 5 4 [(20,.slice a2 u.length ai),(22,iv (u.length:Int)),(24,iv (u.length:Int))] (ix rfl (B7b (n':=u.length) Q1 rfl rfl u.length u.length (A0w rfl rfl) (A0w rfl rfl) opx opx (by first|rfl|omega) rfl) (ip' 1 2 [(26,.slice ((b.getD a (⟨none,0,0⟩:Slc)).q) ((o.getD a []).length) ((b.getD a (⟨none,0,0⟩:Slc)).k))] (it rfl (C3c (f:=A0) (xs:=u) (ys:=(o.getD a [])) A4u (fun _=>rfl) (fun _=>rfl) rfl rfl rfl rfl rfl rfl opx opx (by rfl) (A5 3 rfl) (A5 0 rfl) ohp ohp) fun ⟨⟨a8,ah⟩,av⟩=>?_))))))))
   have:=@List.length_append _ u (o.getD a [])
   refine ip' 1 0 [(7,.slice a8 ((u++(o.getD a [])).length) ah)] (ie (A3 (sr 8 rfl (ip' 4 4 [(31,bv (decide (((u++(o.getD a [])).length:Int)=0)))] ?_))))
   refine zid 4 0 31 35 c0.frm.wrap (fun ar ay=>?_) ?_
   ·refine ip' 2 2 [(33,pa _)] (ix rfl (C9 ty4 rfl rfl (X7 (A0i (A5 6 rfl) 3 rfl) (ws:=[bv _]) 2 1 rfl) rfl) (ip' 1 0 [(35,bv c0.frm.wrap)] ?_))
    exact A2 (J0 4 31 _ ar A7.refl (mc [[_],[_],_] [true,true,true] rfl oxs) rfl rfl rfl rfl rfl)
   refine ie ?_
   refine zjb rfl hR ?_ ?_<;>clear hR<;>intro hR ao
   ·have a5:=ao;try simp only [Bool.and_eq_true,Bool.or_eq_true,Bool.and_eq_false_iff,Bool.or_eq_false_iff,Bool.not_eq_true',Bool.not_eq_false',decide_eq_true_eq,decide_eq_false_iff_not] at a5
    refine F4 (nx (A1 2 rfl (ix rfl (B3 rfl rfl rfl rfl opx) ?_)))
    refine ip' 1 0 [(16,iv (a+1))] (A2 ?_)
    exact E4y _ _ _ _ ⟨opx,hR,t⟩ olr (mc [[_],[_],_] [true,true,true] rfl oxs) (A7.con1 (A5 2 rfl) (A7.con1 (A5 3 rfl) (A7.con1 (A5 4 rfl) (A7.con1 (A5 5 rfl) (A7.con1 (A5 6 rfl) (A7.dropT 7 rfl))))))
   have a5:=ao;try simp only [Bool.and_eq_true,Bool.or_eq_true,Bool.and_eq_false_iff,Bool.or_eq_false_iff,Bool.not_eq_true',Bool.not_eq_false',decide_eq_true_eq,decide_eq_false_iff_not] at a5
   refine A4 (nx (sr 4 rfl (c9 2 2 [1] [(36,.func (.yield l) #[] #[]),(37,.slice a8 ((u++(o.getD a [])).length) ah)] ?_)))
   have z:=B8p hR;clear hR;obtain ⟨R21,hR,z⟩:=z;rw [z] at t
   refine it rfl (A4d (L2:=[bx h [.func (.func 100) #[ag (M1 c0)] #[]] 186,bx g [.func (.yield l) #[] #[]] 185]) (hY (u++(o.getD a [])) R21 _ _ a8 ah oyh oyh t) rfl rfl rfl rfl (A7.con1 (A5 0 rfl) (A7.dropT 7 rfl)) (I1 [[bx h [.func (.func 100) #[ag (M1 c0)] #[]] 186],[bx g [.func (.yield l) #[] #[]] 185],Lt1] [2,0,1] 3 rfl ozw rfl [Lt1,[bx h [.func (.func 100) #[ag (M1 c0)] #[]] 186],[bx g [.func (.yield l) #[] #[]] 185]] rfl ooa)) fun ⟨⟨aj,L23,Φ24⟩,s⟩=>?_
   refine A8l (A7.yield [sl _ a8 _,_,_,_,_,_,_]) ?_
   refine ip' 1 0 [(39,bv (!aj))] ?_
   refine ie (G4 rfl (fun ac=>?_) (fun ac=>?_))
   ·have a3:aj=false:=by simpa using ac
    rw [a3] at s;try simp only [if_true,if_false,Bool.false_eq_true] at s
    refine A8 (Y0 (I1 [_,_,_] [1,2,0] 3 rfl ozw rfl [[_],[_],L23] rfl opv) ?_)
    refine F1v (I:=fun w x=>E9 c0 w=x.1∧I x.1 x.2.1 x.2.2∧(∀ e ∈ w,mwA e)) (Jx:=fun c x=>c=.ret∧Ix x.2.1 x.2.2) (Lk:=fun x=>(bx h _ _::bx g _ _::(x.2.1++([])))) (rest:=rest) (R21,_,_) (by exact ⟨rfl,s⟩) (mc [[_],[_],_] [true,true,true] rfl oxs) ?_
    exact (A7.con1 (A5 5 rfl) (A7.con1 (A5 6 rfl) (A7.dropT 7 rfl)))
   ·have a3:aj=true:=by simpa using ac
    rw [a3] at s;try simp only [if_true,if_false,Bool.false_eq_true] at s
    refine A4 (nx (A1 2 rfl (ix rfl (B3 rfl rfl rfl rfl opx) (ip' 1 0 [(16,iv (a+1))] (A2 (Y0 (I1 [_,_,_] [1,2,0] 3 rfl ozw rfl [[_],[_],L23] rfl opv) ?_))))))
    exact E4y _ _ _ _ ⟨opx,hR,s⟩ olr (mc _ [true,true,true] rfl oxs) (A7.con1 (A5 2 rfl) (A7.con1 (A5 3 rfl) (A7.con1 (A5 4 rfl) (A7.con1 (A5 5 rfl) (A7.con1 (A5 6 rfl) (A7.dropT 7 rfl))))))
  have a9:¬ ((a:Int)<(o.length:Int)):=by simpa using ab
  rw [A1d a9] at hR;replace hR:=(G8.eq_1 ..).symm.trans hR
  refine F4 ?_
  refine A9f (I:=fun w x=>E9 _ w=x.1∧I x.1 x.2.1 x.2.2∧(∀ e ∈ w,mwA e)) (Jx:=fun c x=>c=.ret∧Ix x.2.1 x.2.2) (Lk:=fun x=>(bx h _ _::bx g _ _::(x.2.1++([])))) (_,_,_) (by exact ⟨hR,t,(by exact fun e he=>ad e (List.mem_cons_of_mem _ he))⟩) (mc [[_],[_],_] [true,true,true] rfl oxs) ?_
  exact (A7.con1 (A5 3 rfl) (A7.con1 (A5 4 rfl) (A7.dropT 5 rfl)))
 ·rintro b9 ⟨R_,Lt,Ft⟩ al hI
  try dsimp only at hI
  obtain ⟨hR,a1,ad⟩:=hI
  replace hR:=(E9.eq_1 ..).symm.trans hR
  refine nx (A1 _ rfl (c9 3 9 [1] [(41,.func (.yield l) #[] #[]),(43,pa _)] (ix rfl (C9 cH rfl rfl (A0i (X7 (A5 1 rfl) 3 2 rfl) (ws:=[iv _]) 1 rfl) rfl) (ix rfl (B3 rfl rfl rfl rfl opx) (ip' 2 5 [(47,pa _)] (ix rfl (C9 cH rfl rfl (X7 (X7 (A5 1 rfl) 3 2 rfl) (ws:=[iv _]) 1 1 rfl) rfl) (ix rfl (B3 rfl rfl rfl rfl opx) (c9 1 2 [] [(50,ag (A0 ({Act.zero with kind:=19,n:=(c0.to_.row+1),m:=(c0.to_.col+1)})))] ?_))))))))
  refine it rfl (B1 (c:=A0) (xs:=[{Act.zero with kind:=19,n:=(c0.to_.row+1),m:=(c0.to_.col+1)}]) Q1 rfl rfl rfl oki) fun ak=>?_
  have:([{Act.zero with kind:=19,n:=(c0.to_.row+1),m:=(c0.to_.col+1)}]:List Act).length=1:=rfl
  have y:=B8p hR;clear hR;obtain ⟨R30,hR,y⟩:=y;rw [y] at a1
  refine it rfl (A4d (L2:=[bx h [.func (.func 100) #[ag (M1 c0)] #[]] 186,bx g [.func (.yield l) #[] #[]] 185]) (hY ([{Act.zero with kind:=19,n:=(c0.to_.row+1),m:=(c0.to_.col+1)}]:List Act) R30 _ _ (some ⟨ak,0,none⟩) 1 oyh oyh a1) rfl rfl rfl rfl (A7.con1 (A5 0 rfl) (A7.dropT 3 rfl)) (I1 [[bx h [.func (.func 100) #[ag (M1 c0)] #[]] 186],[bx g [.func (.yield l) #[] #[]] 185],Lt] [2,0,1] 3 rfl ozw rfl [Lt,[bx h [.func (.func 100) #[ag (M1 c0)] #[]] 186],[bx g [.func (.yield l) #[] #[]] 185]] rfl ooa)) fun ⟨⟨au,L32,Φ33⟩,aa⟩=>?_
  refine A8l (A7.yield [_,_,_]) ?_
  subst hR
  refine A2 ?_
  exact X9 rfl ⟨hr,hD⟩ (by exact (N2.cons (show N2 X.D by rw [hD];exact N2.nil) al)) (B0u rfl) (by cases au<;>first|exact .inr (by simpa using aa)|exact .inl (by simpa using aa)) (mcT [_,[_],[_]] 0 rfl rfl) (A7.dropT 3 rfl)
 ·rintro b4 _ ⟨R_,Lt,Ft⟩ aq ⟨rfl,an⟩
  try dsimp only at an
  refine A8 ?_
  exact B3k rfl ⟨hr,hD⟩ (by exact (N2.cons (show N2 X.D by rw [hD];exact N2.nil) aq)) (B0u rfl) (by exact .inr an) (mcT [[_],[_],_] 2 rfl rfl) (A7.dropT 2 rfl)
def K0:List (List Act)→List Act→Int→(List Act×Int)
 | [],ffoundway,ffoundcost=>(ffoundway,0)
 | el::rest,ffoundway,ffoundcost=>(B6 (R1 el) fun (a:List UInt8×Int)=>(bif ((!decide (a.2=0))||((decide ((0:Int)≤ffoundcost))&&(decide (ffoundcost≤(a.1.length:Int))))) then K0 rest ffoundway ffoundcost else K0 rest el (a.1.length:Int)))
def A0c (a:Int) (b:Int) (from_:Cur) (to_:Plc):List Act×Int :=
 (bif (!decide ((J7 a b (⟨from_,to_⟩:Pth))=0)) then (([]:List Act),(J7 a b (⟨from_,to_⟩:Pth))) else K0 (H3 (C3 (⟨from_,to_⟩:Pth))) ([]:List Act) (-1))
theorem B7l:∀ (l:List (List Act)) (w:List Act) (k:Int),(∀ e ∈ l,C0b e)→C0b w→C0b (K0 l w k).1∧(K0 l w k).2=0
 | [],w,k,_,hw=>⟨hw,rfl⟩
 | el::l,w,k,h,hw=>by
  have a:=fun e b=>h e (List.mem_cons_of_mem _ b)
  rw [K0];simp only [B6]
  cases ((!decide ((R1 el).2=0))||((decide ((0:Int)≤k))&&(decide (k≤((R1 el).1.length:Int))))) with
  | true=>exact B7l l w k a hw
  | false=>exact B7l l el _ a (h el (List.mem_cons_self ..))
theorem D6y (c r:Int) (f:Cur) (t:Plc):A0c c r f t=bif !decide (J7 c r ⟨f,t⟩=0) then ([],J7 c r ⟨f,t⟩) else K0 (H3 ⟨f,t⟩) [] (-1):=rfl
theorem D5u {c r:Int} {f:Cur} {t:Plc} {R:List Act×Int} (h:A0c c r f t=R):C0b R.1:=by
 subst h;rw [D6y]
 have b:C0b ([]:List Act):=⟨Nat.zero_le _,fun a d=>by cases d⟩
 cases hc:(!decide (J7 c r ⟨f,t⟩=0)) with
 | true=>exact b
 | false=>exact (B7l _ _ _ (C4n (C2r hc)).1 b).1
theorem C1h {m l:Int} {from_:Cur} {to_:Plc} {R:List Act×Int} (hR:A0c m l from_ to_=R):Con Tryz.prog 35 [iv m,iv l,ag (H4 from_),ag (S8 to_)] [] [U5,U8,J2,M2] ({t:Option Addr×Nat // R.1.length≤t.2∧R.1.length≤9223372036854775807}) (fun x=>.tuple #[.slice x.1.1 R.1.length x.1.2,iv R.2]) (fun x=>[]) (fun x=>[sl A0 x.1.1 R.1]):=by
 refine cC Tryz.func35 fun X hX hr hD=>?_
 replace hR:=(A0c.eq_1 ..).symm.trans hR
 refine bS rfl (B6z 4 [] (fun o s=>[(6,pt o 0),(7,pt s 0)]) (fun _ _=>(H4 from_)) (fun _ _=>(S8 to_)) 29 24 fun o s=>(ie (C0j (bS rfl (zra 5 [1,0,0] (fun p=>[(10,pt p 0)]) (fun _=>(M1 ⟨from_,to_⟩)) 138 fun p=>(ie (A3 (bS rfl (c9 3 2 [0] [(19,iv m),(20,iv l),(21,ag (M1 (⟨from_,to_⟩:Pth)))] (zv rfl (C5r rfl) (bP 1 11 rfl (ie (bS rfl (bP 2 24 rfl (ie ?_)))))))))))))))
 refine zjn rfl hR ?_ ?_<;>clear hR<;>intro hR h4 ad
 ·refine bS rfl (cG 3 8 9 rfl ?_)
  subst hR
  refine ie (A8 ?_)
  exact cD hr hD (U0 rfl (A6 rfl) (A6 rfl)) (zq _ 0) (mk [false,false,false] rfl) cB
 have a5:=C2r h4
 refine A4 (nx (bS rfl (zra 4 [0] (fun k=>[(12,pt k 0)]) (fun _=>[.slice none 0 0,iv (-1)]) 143 fun k=>(ie (A3 (C0m (nx (A3 (bS rfl (c9 1 1 [1] [(28,ag (M1 ⟨from_,to_⟩))] ?_))))))))))
 refine zc rfl (C2k rfl) fun z=>?_
 refine ie (A9 (D0f [(12,_),(29,_)] ⟨rfl,rfl,trivial⟩ ?_))
 refine D4c hr rfl (C0g _ z (by first|exact a5|assumption) _ rfl) cB rfl rfl (fun j x=>K0 j x.1 x.2.2.2=R∧x.1.length≤x.2.2.1∧x.1.length≤9223372036854775807∧(∀ e ∈ j,C0b e)) (fun _ _=>False) (fun x=>[bx k [.slice x.2.1 x.1.length x.2.2.1,iv x.2.2.2] _,_,_,_]) (fun x=>[_,U5,U8,J2,M2,sl A0 x.2.1 x.1]) (_,_,0,_) (by exact ⟨hR,oyh,oyh,(by exact (C4n a5).1)⟩) (mk [true,true,true,true] rfl) cB ?_ ?_ (fun _ _ _ _ h=>h.elim)
 ·rintro el rest ⟨d,b,c,a⟩ v w ai ah hI Y Y' K' af hK
  try dsimp only at hI
  obtain ⟨hR,g,i,q⟩:=hI
  replace hR:=(K0.eq_2 ..).symm.trans hR
  refine A1 1 rfl (bP 1 13 rfl (A2 (hK _ _ _ ?_)))
  refine A9 (bS rfl (bP 1 32 rfl ?_))
  have hQ:=C4 hR;clear hR;obtain ⟨n,a3,hR⟩:=hQ
  refine zc rfl (B0k a3 bW bW (by first|exact B7c q|exact A2p hbm|exact A2p (B6x hwq.1 _)|exact fun x f=>⟨by rw [(hpen x f).2];exact Nat.zero_le _,by rw [(hpen x f).1];decide⟩|exact fun x f=>hnt x f|assumption|decide|exact fun x f=>Nat.le_trans (hrow x f) ozw|exact fun x f=>Nat.le_trans (of_decide_eq_true (List.all_eq_true.1 hbt x f)) ozw|(intro x f;simp only [List.nil_append,List.mem_append] at f;rcases f with f|f<;>first|exact Nat.le_trans (hrow x f) ozw|exact Nat.le_trans (hpt x f) ozw)|(intro x f;rw [List.mem_singleton.1 f];omega)|exact fun x f=>Nat.le_trans (hrow x (List.mem_of_mem_take f)) ozw|exact fun x f=>Nat.le_trans (hrow x (List.mem_of_mem_drop f)) ozw|exact fun x f=>Nat.le_trans (hrow x (List.mem_of_mem_drop (List.mem_of_mem_take f))) ozw|omega)) fun ⟨r,u⟩=>?_
  try have:=A6n el (fun x f=>Nat.le_trans (hrow x (by first|exact f|exact List.mem_of_mem_take f|exact List.mem_of_mem_drop f)) ozw);try rw [a3] at this
  refine cG 5 14 15 rfl (ie (A3 (bS rfl (bP 3 38 rfl ?_))))
  refine zio 13 0 38 51 ((decide (0≤a))&&(decide (a≤n.1.length))) (fun a4=>?_) ?_
  ·have aa:=bV a4
   refine cF 5 [0] 43 rfl ?_
   refine zid 7 1 43 50 (decide (a≤n.1.length)) (fun a7 a9=>?_) ?_
   ·refine c9 7 0 [0] [(50,bv (decide (a≤n.1.length)))] ?_
    exact A2 (J0 2 43 _ a7 A7.refl (mc [[_],[_],[_],[_],_] [true,true,true,true,true] rfl oxs) rfl rfl rfl rfl rfl)
   refine ip' 1 0 [(51,bv ((decide (0≤a))&&(decide (a≤n.1.length))))] ?_
   exact A2 (J0 4 38 _ a4 A7.refl (mc [[_],[_],[_],[_],_] [true,true,true,true,true] rfl oxs) rfl rfl rfl rfl rfl)
  refine ie ?_
  refine zjb rfl hR ?_ ?_<;>clear hR<;>intro hR y
  ·have a0:=bV y
   refine F4 ?_
   refine A9f (I:=fun j x=>K0 j x.1 x.2.2.2=R∧x.1.length≤x.2.2.1∧x.1.length≤9223372036854775807∧(∀ e ∈ j,C0b e)) (Jx:=fun _ _=>False) (Lk:=fun x=>[bx k [.slice x.2.1 x.1.length x.2.2.1,iv x.2.2.2] _,_,_,_]) (d,b,c,a) (by exact ⟨hR,oyh,oyh,(by exact fun e he=>q e (List.mem_cons_of_mem _ he))⟩) (mc [[_],[_],[_],[_],_] [true,true,true,true,false] rfl oxs) ?_
   exact cB
  refine A4 (nx (A1 9 rfl (zru 9 [0,0] [] 0 (bx k [.slice v el.length w,iv n.1.length] 143) (A2 ?_))))
  refine A9f (I:=fun j x=>K0 j x.1 x.2.2.2=R∧x.1.length≤x.2.2.1∧x.1.length≤9223372036854775807∧(∀ e ∈ j,C0b e)) (Jx:=fun _ _=>False) (Lk:=fun x=>[bx k [.slice x.2.1 x.1.length x.2.2.1,iv x.2.2.2] _,_,_,_]) (_,v,w,(n.1.length:Int)) (by exact ⟨hR,oyh,oyh,(by exact fun e he=>q e (List.mem_cons_of_mem _ he))⟩) (mc [[_],[_],[_],[_],_] [true,true,true,true,false] rfl oxs) ?_
  exact cB
 ·rintro aj ⟨d,b,c,a⟩ a2 hI
  try dsimp only at hI
  obtain ⟨hR,g,i,q⟩:=hI
  replace hR:=(K0.eq_1 ..).symm.trans hR
  refine nx (bS rfl (pl2 5 [0] 8 9 rfl ?_))
  subst hR
  refine ie (A8 ?_)
  exact B4c rfl ⟨hr,hD⟩ (by exact (N2.cons (show N2 X.D by rw [hD];exact N2.nil) a2)) (U0 rfl (A6 rfl) (A6 rfl)) (zq b c) (by rfl) (mk [false,false,false,false] rfl) cB
@[reducible] def aD (s:Sty) (l:List Value):List Value := iv s.attr::iv s.under::iv s.fore.kind::iv s.fore.n::iv s.back.kind::iv s.back.n::iv s.line.kind::iv s.line.n::l
theorem E3u:EqT Tryz.prog 65 D6:=EqT.of 20 rfl oki oki (fun _ _=>by kernel_rfl) D6.inj
theorem B4v:Ty Tryz.prog 65 8 true:=⟨by kernel_rfl⟩
theorem E8a:Ty Tryz.prog 273 5 true:=⟨by kernel_rfl⟩
def E1d (a:Act):Prop:=a.kind=39∧a.text=[]
def A6x (a:Int) (m:Int) (c:Col):List Act :=
 (([]:List Act)++([{Act.zero with kind:=39,n:=a,m:=m,color:=c}]:List Act))
theorem C8i (a m:Int) (c:Col):(A6x a m c).length=1:=by
 unfold A6x;simp
theorem D2h {a m:Int} {c:Col} {e:Nat} {R:List Act} (hR:A6x a m c=R) (i:([]:List Act).length≤2000:=by exact bW):Con Tryz.prog 166 [pt e 0,iv a,iv m,ag (U2 c)] [bx e [.slice none 0 0] 269] [] ({r:VR // bT 6 R.length r}) (fun x=>.tuple #[]) (fun x=>(bx e [.slice (va x.1.q) R.length x.1.k] 269::((vo A0 54 x.1 R)++([])))) (fun x=>[]):=by
 refine cC Tryz.func166 fun X hX hr hD=>?_
 replace hR:=(A6x.eq_1 ..).symm.trans hR
 refine bS rfl (zra 1 [] (fun g=>[(7,pt g 0)]) (fun _=>(U2 c)) 52 fun g=>(ie (zSn [(16,[0]),(15,[1])] ?_)))
 refine hq4 [0,1,2,3,4,6,7] 8 12 14 15 rfl ?_
 refine gl 5 [0,1] rfl (C1 C1v rfl rfl 1 rfl rfl) ?_
 refine gl 8 [0,1] rfl (G7 (us:=U2 c) B9a rfl rfl 0 rfl rfl rfl) ?_
 refine gk 9 rfl (A1h (cs:=A0 ({Act.zero with kind:=39,n:=a,m:=m,color:=c})) rfl rfl oki) ?_
 refine go 10 [0,1] rfl (B1 (c:=A0) (xs:=[{Act.zero with kind:=39,n:=a,m:=m,color:=c}]) Q1 rfl rfl rfl oki) fun h=>?_
 have:([{Act.zero with kind:=39,n:=a,m:=m,color:=c}]:List Act).length=1:=rfl
 refine go 11 [0,1] rfl (S7 (f:=A0) (r:=VR.nil) (xs:=([]:List Act)) (ys:=([{Act.zero with kind:=39,n:=a,m:=m,color:=c}]:List Act)) (pre:=[bx g (U2 c) 52,bx e [.slice none 0 0] 269]) (post:=[]) A4u (fun _=>rfl) (fun _=>rfl) rfl rfl rfl rfl rfl rfl rfl rfl rfl (A5 0 rfl) bT.nil ofv ofv) fun ⟨d,b⟩=>?_
 refine hq1 [12,13,14] 22 rfl ?_
 refine go 15 [0] rfl (P4 (us:=[.slice (va d.q) ((([]:List Act)++([{Act.zero with kind:=39,n:=a,m:=m,color:=c}]:List Act)).length) d.k]) (cs':=[.slice (va d.q) ((([]:List Act)++([{Act.zero with kind:=39,n:=a,m:=m,color:=c}]:List Act)).length) d.k]) C1v rfl rfl rfl 1 rfl rfl rfl rfl rfl rfl) fun _=>?_
 refine gdn ?_
 subst hR
 exact zen hr hD (B0u rfl) ⟨d,b⟩ bU bX
def X8 (r:List Act) (a:Int) (m:Int) (c:Col):List Act :=
 (r++([{Act.zero with kind:=39,n:=a,m:=m,color:=c}]:List Act))
theorem A2h (r:List Act) (a m:Int) (c:Col):(X8 r a m c).length=r.length+1:=by
 unfold X8;simp
theorem A4j {r:List Act} {a m:Int} {c:Col} {b:Nat} {rr:VR} {R:List Act} (hR:X8 r a m c=R) (e:bT 6 r.length rr:=by exact bW) (j:r.length≤2000:=by exact bW):Con Tryz.prog 166 [pt b 0,iv a,iv m,ag (U2 c)] (bx b [.slice (va rr.q) r.length rr.k] 269::((vo A0 54 rr r)++([]))) [] ({r:VR // bT 6 R.length r}) (fun x=>.tuple #[]) (fun x=>(bx b [.slice (va x.1.q) R.length x.1.k] 269::((vo A0 54 x.1 R)++([])))) (fun x=>[]):=by
 refine cC Tryz.func166 fun X hX hr hD=>?_
 replace hR:=(X8.eq_1 ..).symm.trans hR
 have:=bT.le e
 refine bS rfl (B0j 1 0 [] (fun d=>[(7,pt d 0)]) (fun d=>(bx d (U2 c) 52::bx b [.slice (va rr.q) r.length rr.k] 269::((vo A0 54 rr r)++([])))) (fun d=>(ie ?_)))
 refine sh' 16 [(16,[bx d (U2 c) 52]),(15,[bx b [.slice (va rr.q) r.length rr.k] 269]),(11,vo A0 54 rr r)] [] (bx d (U2 c) 52::bx b [.slice (va rr.q) r.length rr.k] 269::((vo A0 54 rr r)++([]))) (cA 16 0) oki rfl oki oki oki bU A7.refl ?_
 refine zhp [0,1,2,3,4,6,7] 9 (cA 16 223) [(8,pt b 0),(12,pt b 0),(14,iv a),(15,iv m)] ?_
 refine zhl 5 (bx d (U2 c) 52::bx b [.slice (va rr.q) r.length rr.k] 269::((vo A0 54 rr r)++([]))) (cA 16 255) rfl (C1 (v:=.slice (va rr.q) r.length rr.k) C1v rfl rfl 1 rfl rfl) ?_
 refine zhl 8 [bx d (U2 c) 52,bx b [.slice (va rr.q) r.length rr.k] 269] (cA 16 511) rfl (G7 (us:=U2 c) B9a rfl rfl 0 rfl rfl rfl) ?_
 refine zhk 9 (cA 16 1023) rfl (A1h (cs:=A0 ({Act.zero with kind:=39,n:=a,m:=m,color:=c})) rfl rfl oki) ?_
 refine zho 10 (bx d (U2 c) 52::bx b [.slice (va rr.q) r.length rr.k] 269::((vo A0 54 rr r)++([]))) (cA 16 2047) rfl (B1 (c:=A0) (xs:=([{Act.zero with kind:=39,n:=a,m:=m,color:=c}]:List Act)) Q1 rfl rfl rfl oki) (fun i=>bU) (fun i=>bX) fun i=>?_
 have:([{Act.zero with kind:=39,n:=a,m:=m,color:=c}]:List Act).length=1:=rfl
 refine zho 11 [bx d (U2 c) 52,bx b [.slice (va rr.q) r.length rr.k] 269] (cA 16 4095) rfl (S7 (f:=A0) (r:=rr) (xs:=r) (ys:=([{Act.zero with kind:=39,n:=a,m:=m,color:=c}]:List Act)) (pre:=[bx d (U2 c) 52,bx b [.slice (va rr.q) r.length rr.k] 269]) (post:=[]) A4u (fun _=>rfl) (fun _=>rfl) rfl rfl rfl rfl rfl rfl rfl rfl rfl (A5 0 rfl) e ofv ofv) (fun ⟨h,g⟩=>bU) (fun ⟨h,g⟩=>bX) fun ⟨h,g⟩=>?_
 have:=bT.le g
 have:=bT.cap g
 refine zhp [12,13,14] 1 (cA 16 32767) [(22,pt b 0)] ?_
 refine zho 15 [bx d (U2 c) 52] (cA 16 65535) rfl (P4 (us:=[.slice (va h.q) ((r++([{Act.zero with kind:=39,n:=a,m:=m,color:=c}]:List Act)).length) h.k]) (cs':=[.slice (va h.q) ((r++([{Act.zero with kind:=39,n:=a,m:=m,color:=c}]:List Act)).length) h.k]) C1v rfl rfl rfl 1 rfl rfl rfl rfl rfl rfl) (fun _=>bU) (fun _=>bX) fun _=>?_
 refine C0k oki ?_
 subst hR
 exact zen hr hD (B0u rfl) ⟨h,g⟩ bU bX
def A4p (b:Int) (a:Int→List Act→List Act) (c:List Act):List Act :=
 a (b * 2) c
def A5l (a:List Act):List Act :=
 a
def A5q (from_:Sty) (to_:Sty) (b:List Act):List Act :=
 (bif (!(decide (from_.line=to_.line))) then (B6 (X8 b 6 0 to_.line) fun (a:List Act)=>A5l a) else A5l b)
def A5o (from_:Sty) (to_:Sty) (b:List Act):List Act :=
 (bif (!(decide (from_.back=to_.back))) then (B6 (X8 b 5 0 to_.back) fun (a:List Act)=>A5q from_ to_ a) else A5q from_ to_ b)
def A4m (from_:Sty) (to_:Sty) (b:List Act):List Act :=
 (bif (!(decide (from_.fore=to_.fore))) then (B6 (X8 b 4 0 to_.fore) fun (a:List Act)=>A5o from_ to_ a) else A5o from_ to_ b)
def A4o (b:Int) (a:Int→List Act→List Act) (c:List Act):List Act :=
 a (b * 2) c
def R4 (from_:Sty) (to_:Sty) (a:Int):Nat→Int→List Act→List Act
 | 0,_,_=>[]
 | fu3+1,bit1,y3=>(bif (decide ((255:Int)<bit1)) then (bif (!decide (from_.under=to_.under)) then (B6 (X8 y3 3 to_.under Col.zero) fun (c:List Act)=>A4m from_ to_ c) else A4m from_ to_ y3) else (bif ((!decide ((bOp .and .i64 to_.attr bit1)=0))&&(decide ((bOp .and .i64 a bit1)=0))) then (B6 (X8 y3 1 bit1 Col.zero) fun (b:List Act)=>A4o bit1 (R4 from_ to_ a fu3) b) else A4o bit1 (R4 from_ to_ a fu3) y3))
def V0 (from_:Sty) (to_:Sty) (a:Int):Nat→Int→List Act→List Act
 | 0,_,_=>[]
 | fu1+1,bit,y5=>(bif (decide (bit≤255)) then (bif ((!decide ((bOp .and .i64 a bit)=0))&&(decide ((bOp .and .i64 to_.attr bit)=0))) then (B6 (X8 y5 2 bit Col.zero) fun (b:List Act)=>A4p bit (V0 from_ to_ a fu1) b) else A4p bit (V0 from_ to_ a fu1) y5) else R4 from_ to_ a (((512:Int) - 1).toNat+1) 1 y5)
def A1a (from_:Sty) (to_:Sty) (b:Int) (a:List Act):List Act :=
 V0 from_ to_ b (((512:Int) - 1).toNat+1) 1 a
def A6l (from_:Sty) (to_:Sty):List Act :=
 (bif (!decide ((bOp .and .i64 (bOp .andNot .i64 from_.attr to_.attr) 3)=0)) then (B6 (A6x 2 3 Col.zero) fun (a:List Act)=>A1a from_ to_ (bOp .andNot .i64 from_.attr 3) a) else A1a from_ to_ from_.attr ([]:List Act))
def kA (n m:Int):Act:={Act.zero with kind:=39,n:=n,m:=m}
def kC (n:Int) (c:Col):Act:={Act.zero with kind:=39,n:=n,color:=c}
def A6u (c:Bool) (a:Act):List Act:=bif c then [a] else []
def D9h:List Int:=[1,2,4,8,16,32,64,128]
def E7p (a:Int) (t:Sty) (b:Int):Bool:=(!decide ((bOp .and .i64 a b)=0))&&(decide ((bOp .and .i64 t.attr b)=0))
def E5r (a:Int) (t:Sty) (b:Int):Bool:=(!decide ((bOp .and .i64 t.attr b)=0))&&(decide ((bOp .and .i64 a b)=0))
def E6l (a:Int) (t:Sty):List Act:=D9h.flatMap fun b=>A6u (E7p a t b) (kA 2 b)
def sets (a:Int) (t:Sty):List Act:=D9h.flatMap fun b=>A6u (E5r a t b) (kA 1 b)
def C6k (f t:Sty):List Act:=A6u (!decide (f.under=t.under)) (kA 3 t.under)++(A6u (!decide (f.fore=t.fore)) (kC 4 t.fore)++(A6u (!decide (f.back=t.back)) (kC 5 t.back)++A6u (!decide (f.line=t.line)) (kC 6 t.line)))
def E2l (f t:Sty):Bool:=!decide ((bOp .and .i64 (bOp .andNot .i64 f.attr t.attr) 3)=0)
def E6r (f t:Sty):Int:=bif E2l f t then bOp .andNot .i64 f.attr 3 else f.attr
def chg (f t:Sty):List Act:=A6u (E2l f t) (kA 2 3)++(E6l (E6r f t) t++(sets (E6r f t) t++C6k f t))
theorem E5b {c:Bool} {a x:Act} (h:x ∈ A6u c a):x=a:=by cases c<;>simp [A6u] at h;exact h
theorem E4d (c:Bool) (a:Act):(A6u c a).length≤1:=by cases c<;>simp [A6u]
theorem B5c (f t:Sty) (l:List Act):A4m f t l=l++(A6u (!decide (f.fore=t.fore)) (kC 4 t.fore)++(A6u (!decide (f.back=t.back)) (kC 5 t.back)++A6u (!decide (f.line=t.line)) (kC 6 t.line))):=by
 unfold A4m A5o A5q A5l
 simp only [B6,X8]
 generalize decide (f.fore=t.fore)=a
 generalize decide (f.back=t.back)=b
 generalize decide (f.line=t.line)=c
 cases a<;>cases b<;>cases c<;>simp [A6u,kC,Act.zero]
theorem S5 (f t:Sty) (a:Int) (F:Nat) (b:Int) (l:List Act) (hb:b≤255):R4 f t a (F+1) b l=R4 f t a F (b * 2) (l++A6u (E5r a t b) (kA 1 b)):=by
 rw [R4,decide_eq_false (by omega:¬ (255:Int)<b),cond_false]
 show (bif E5r a t b then _ else _)=_
 cases E5r a t b with
 | true=>simp only [cond_true,B6,A4o];rfl
 | false=>simp only [cond_false,A4o,A6u,List.append_nil]
theorem C2d (f t:Sty) (a:Int) (F:Nat) (l:List Act):R4 f t a (F+1) 256 l=l++C6k f t:=by
 rw [R4,decide_eq_true (by omega:(255:Int)<256),cond_true]
 unfold C6k
 cases decide (f.under=t.under) with
 | true=>simp only [Bool.not_true,cond_false,B5c,A6u,List.nil_append]
 | false=>simp only [Bool.not_false,cond_true,B6,B5c,A6u,X8,List.append_assoc];rfl
theorem C4l (f t:Sty) (a:Int) (F:Nat) (b:9≤F) (l:List Act):R4 f t a F 1 l=l++(sets a t++C6k f t):=by
 obtain ⟨G,rfl⟩:∃ G,F=G+1+1+1+1+1+1+1+1+1:=⟨F - 9,by omega⟩
 rw [S5 _ _ _ _ _ _ opx,S5 _ _ _ _ _ _ opx,S5 _ _ _ _ _ _ opx,S5 _ _ _ _ _ _ opx,S5 _ _ _ _ _ _ opx,S5 _ _ _ _ _ _ opx,S5 _ _ _ _ _ _ opx,S5 _ _ _ _ _ _ opx]
 rw [show (1:Int) * 2 * 2 * 2 * 2 * 2 * 2 * 2 * 2=256 by omega,C2d]
 unfold sets D9h
 simp only [List.flatMap_cons,List.flatMap_nil,List.append_assoc,List.append_nil,List.nil_append]
 rfl
theorem S2 (f t:Sty) (a:Int) (F:Nat) (b:Int) (l:List Act) (hb:b≤255):V0 f t a (F+1) b l=V0 f t a F (b * 2) (l++A6u (E7p a t b) (kA 2 b)):=by
 rw [V0,decide_eq_true hb,cond_true]
 generalize ((512:Int) - 1).toNat+1=Z
 show (bif E7p a t b then _ else _)=_
 cases E7p a t b with
 | true=>simp only [cond_true,B6,A4p];rfl
 | false=>simp only [cond_false,A4p,A6u,List.append_nil]
theorem C2y (f t:Sty) (a:Int) (F:Nat) (l:List Act):V0 f t a (F+1) 256 l=l++(sets a t++C6k f t):=by
 rw [V0,decide_eq_false (by omega:¬ (256:Int)≤255),cond_false]
 generalize hF:((512:Int) - 1).toNat+1=Z
 exact C4l f t a Z opx l
theorem B5g (f t:Sty) (a:Int) (l:List Act):A1a f t a l=l++(E6l a t++(sets a t++C6k f t)):=by
 rw [A1a]
 generalize hF:((512:Int) - 1).toNat+1=F
 obtain ⟨G,rfl⟩:∃ G,F=G+1+1+1+1+1+1+1+1+1:=⟨F - 9,by omega⟩
 clear hF
 rw [S2 _ _ _ _ _ _ opx,S2 _ _ _ _ _ _ opx,S2 _ _ _ _ _ _ opx,S2 _ _ _ _ _ _ opx,S2 _ _ _ _ _ _ opx,S2 _ _ _ _ _ _ opx,S2 _ _ _ _ _ _ opx,S2 _ _ _ _ _ _ opx]
 rw [show (1:Int) * 2 * 2 * 2 * 2 * 2 * 2 * 2 * 2=256 by omega,C2y]
 unfold E6l D9h
 simp only [List.flatMap_cons,List.flatMap_nil,List.append_assoc,List.append_nil,List.nil_append]
 rfl
theorem C7r (f t:Sty) (X:List Act) (c:Bool) (a:E2l f t=c) (h:(bif c then (B6 (A6x 2 3 Col.zero) fun (r:List Act)=>A1a f t (bOp .andNot .i64 f.attr 3) r) else A1a f t f.attr ([]:List Act))=X):X=chg f t:=by
 unfold chg E6r
 rw [a]
 clear a
 cases c with
 | true=>rw [cond_true] at h;obtain ⟨r,hr,h⟩:=C4 h;rw [B5g] at h;rw [← h,← hr,cond_true];unfold A6x A6u kA;rw [cond_true,List.nil_append];rfl
 | false=>rw [cond_false,B5g] at h;rw [← h,cond_false];unfold A6u;rw [cond_false]
theorem A9o (f t:Sty):A6l f t=chg f t:=C7r f t _ _ rfl (A6l.eq_1 f t).symm
theorem D4z (f t:Sty):(chg f t).length≤21:=by
 have h:=E4d
 unfold chg E6l sets C6k D9h
 simp only [List.flatMap_cons,List.flatMap_nil,List.length_append,List.length_nil]
 have l:=h (E2l f t) (kA 2 3)
 have c:=fun b=>h (E7p (E6r f t) t b) (kA 2 b)
 have a:=fun b=>h (E5r (E6r f t) t b) (kA 1 b)
 have c1:=c 1;have c2:=c 2;have i:=c 4;have s:=c 8;have k:=c 16;have r:=c 32;have q:=c 64;have j:=c 128
 have m:=a 1;have p:=a 2;have o:=a 4;have e:=a 8;have y:=a 16;have d:=a 32;have n:=a 64;have g:=a 128
 have u:=h (!decide (f.under=t.under)) (kA 3 t.under);have v:=h (!decide (f.fore=t.fore)) (kC 4 t.fore);have w:=h (!decide (f.back=t.back)) (kC 5 t.back);have x:=h (!decide (f.line=t.line)) (kC 6 t.line)
 omega
theorem E3e (f t:Sty):∀ a ∈ chg f t,E1d a:=by
 intro a d
 have e:∀ n m,E1d (kA n m):=fun n m=>⟨rfl,rfl⟩
 have g:∀ n c,E1d (kC n c):=fun n c=>⟨rfl,rfl⟩
 unfold chg E6l sets C6k at d
 simp only [List.mem_append,List.mem_flatMap] at d
 rcases d with h | ⟨b,_,h⟩ | ⟨b,_,h⟩|h|h|h|h<;>(rw [E5b h];first|exact e _ _|exact g _ _)
theorem B8q (f t:Sty):(A6l f t).length≤1100:=by rw [A9o];have:=D4z f t;omega
theorem C1g {from_ to_:Sty} {R:List Act} (hR:A6l from_ to_=R):Con Tryz.prog 107 [ag (D6 from_),ag (D6 to_)] [] [] ({r:VR // bT 6 R.length r}) (fun x=>.slice (va x.1.q) R.length x.1.k) (fun x=>((vo A0 54 x.1 R)++([]))) (fun x=>[]):=by
 refine cC Tryz.func107 fun X hX hr hD=>?_
 replace hR:=(A6l.eq_1 ..).symm.trans hR
 refine bS rfl (B6z 3 [] (fun b1 b2=>[(2,pt _ 0),(3,pt b2 0)]) (fun _ _=>(D6 from_)) (fun _ _=>(D6 to_)) 65 65 fun b1 b2=>(ie (C0j (bS rfl (zra 3 [] (fun t=>[(5,pt t 0)]) (fun _=>[.slice none 0 0]) 269 fun t=>(ie (bS rfl (ip' 3 0 [(6,.func (.func 166) #[pt t 0] #[])] (ie (bS rfl (cF 3 [2] 7 rfl ?_)))))))))))
 refine ie (A7y (un fun a2=>un fun y w=>(A1a from_ to_ a2 y=R∧bT 6 y.length w∧y.length≤1,[(2,pt b1 0),(3,pt b2 0),(5,pt t 0),(6,.func (.func 166) #[pt t 0] #[]),(7,iv a2)],(bx t [.slice (va w.q) y.length w.k] 269::bx b2 (D6 to_) 65::bx b1 (D6 from_) 65::((vo A0 54 w y)++([]))),[])) ?_ ?_)
 ·refine bS rfl (cF 6 [2,1] 8 rfl (ie (bS rfl (bP 3 26 rfl (ie ?_)))))
  refine zjn rfl hR ?_ ?_<;>clear hR<;>intro hR h4 c5
  ·refine bS rfl (c9 2 1 [] [(27,.func (.func 166) #[pt t 0] #[]),(28,ag (U2 Col.zero))] ?_)
   have hQ:=C4 hR;clear hR;obtain ⟨y0,ba,hR⟩:=hQ
   refine zc rfl (D2h ba) fun ⟨r5,az⟩=>?_
   have:=C8i 2 3 Col.zero;try rw [ba] at this
   refine ie (A1 3 rfl (bP 3 7 rfl (A2 ?_)))
   exact W8 (_,_,_) ⟨hR,az,ozq⟩ bU bX
  refine A4 (Y0 (I1 [_,_,_,_] [1,2,3,0] 4 rfl ozw rfl [[_],[_],[_],vo A0 54 VR.nil []] rfl opv) ?_)
  exact W8 (_,_,_) ⟨hR,bT.nil,ozq⟩ bU bX
 rintro ⟨a2,y,w⟩
 rintro ⟨hR,aa,hj⟩
 replace hR:=(A1a.eq_1 ..).symm.trans hR
 refine A3 (bS rfl (bP 1 9 rfl ?_))
 refine ie (A9 ?_)
 refine A3q (un fun fu=>un fun u=>un fun y5 f=>((512 - u).toNat<fu∧V0 _ _ _ fu u y5=R∧bT 6 y5.length f∧1≤u∧u≤510∧y5.length≤u,[(2,_),(3,_),(5,_),(6,_),(7,_),(9,iv u)],(bx t [.slice (va f.q) y5.length f.k] _::bx _ _ _::bx _ _ _::((vo _ _ f y5)++([]))),_,fu)) (_,1,y,w) ⟨(Nat.lt_succ_self _),hR,aa,opx,ozq⟩ bU bX ?_
 rintro ⟨fu,u,y5,f⟩ ⟨c7,hR,h,hb,hn⟩
 have:=bT.le h
 obtain ⟨fu1,rfl⟩:∃ m,fu=m+1:=⟨fu - 1,by omega⟩
 replace hR:=(V0.eq_2 ..).symm.trans hR
 refine A3 (bS rfl (bP 2 33 rfl ?_))
 refine ie ?_
 refine zjd rfl hR ?_ ?_<;>clear hR<;>intro hR h8 cc
 ·refine A4 (nx (A7y (un fun y9 p=>(A4p u (V0 from_ to_ a2 fu1) y9=R∧bT 6 y9.length p∧y9.length≤u+1,[(2,pt b1 0),(3,pt b2 0),(5,pt t 0),(6,.func (.func 166) #[pt t 0] #[]),(7,iv a2),(9,iv u)],(bx t [.slice (va p.q) y9.length p.k] 269::bx b2 (D6 to_) 65::bx b1 (D6 from_) 65::((vo A0 54 p y9)++([]))),[])) ?_ ?_))
  ·refine A9 (bS rfl (bP 5 40 rfl ?_))
   refine zia 6 0 40 46 (decide ((bOp .and .i64 to_.attr u)=0)) (fun g9=>?_) ?_
   ·have cd:=bV g9
    refine cF 6 [1] 46 rfl ?_
    exact A2 (J0 2 40 _ g9 bX bU rfl rfl rfl rfl rfl)
   refine ie ?_
   refine zjb rfl hR ?_ ?_<;>clear hR<;>intro hR ay
   ·have b8:=bV ay
    refine A1 4 rfl (c9 3 1 [] [(47,.func (.func 166) #[pt t 0] #[]),(48,iv u),(49,ag (U2 Col.zero))] ?_)
    have hQ:=C4 hR;clear hR;obtain ⟨y1,b7,hR⟩:=hQ
    refine zc rfl (A4j b7 h) fun ⟨bo,ak⟩=>?_
    have:=A2h y5 2 u Col.zero;try rw [b7] at this
    refine A2 ?_
    exact W8 (_,_) ⟨hR,ak,ozq⟩ bU bX
   try (have a8:d≤255:=by have q:=ay;simp at q;omega)
   refine A4 ?_
   exact W8 (_,f) ⟨hR,h,ozq⟩ bU bX
  rintro ⟨y9,p⟩
  rintro ⟨hR,a6,hj⟩
  replace hR:=(A4p.eq_1 ..).symm.trans hR
  refine A1 3 rfl (bP 1 34 rfl ?_)
  refine ix rfl (D5c rfl rfl rfl ozw (by show IntKind.i64.wrap (u * 2)=_;exact A3i (by simp [IntKind.min,IntKind.signed,IntKind.bits];omega) (by simp [IntKind.max,IntKind.signed,IntKind.bits];omega))) (bP 1 9 rfl (A2 ?_))
  exact A2g (_,_,_,p) ⟨opx,hR,a6,(by first|omega|(rw [A3i (by simp [IntKind.min,IntKind.signed,IntKind.bits];omega) (by simp [IntKind.max,IntKind.signed,IntKind.bits];omega)];omega)),ozq⟩ (Nat.lt_succ_self _) bU bX
 refine F4 (nx (A3 (C0m (nx (A3 (bS rfl (bP 1 10 rfl ?_)))))))
 refine ie (A9 ?_)
 refine A3q (un fun ab=>un fun d=>un fun y3 g=>((512 - d).toNat<ab∧R4 _ _ _ ab d y3=R∧bT 6 y3.length g∧1≤d∧d≤510∧y3.length≤512+d,[(2,_),(3,_),(5,_),(6,_),(7,_),(10,iv d)],(bx t [.slice (va g.q) y3.length g.k] _::bx _ _ _::bx _ _ _::((vo _ _ g y3)++([]))),_,ab)) (_,1,_,f) ⟨(Nat.lt_succ_self _),hR,h,opx,ozq⟩ bU bX ?_
 rintro ⟨ab,d,y3,g⟩ ⟨c0,hR,e,hb,hn⟩
 have:=bT.le e
 obtain ⟨fu3,rfl⟩:∃ m,ab=m+1:=⟨ab - 1,by omega⟩
 replace hR:=(R4.eq_2 ..).symm.trans hR
 refine A7y (un fun a9 i=>(A4o d (R4 from_ to_ a2 fu3) a9=R∧bT 6 a9.length i∧a9.length≤513+d∧d≤255,[(2,pt b1 0),(3,pt b2 0),(5,pt t 0),(6,.func (.func 166) #[pt t 0] #[]),(7,iv a2),(10,iv d)],(bx t [.slice (va i.q) a9.length i.k] 269::bx b2 (D6 to_) 65::bx b1 (D6 from_) 65::((vo A0 54 i a9)++([]))),[])) ?_ ?_
 ·refine A9 (A3 (bS rfl (bP 2 54 rfl ?_)))
  refine ie ?_
  refine zjd rfl hR ?_ ?_<;>clear hR<;>intro hR bd bu
  ·refine F4 (nx (A7y (un fun y8 j=>(A4m from_ to_ y8=R∧bT 6 y8.length j∧y8.length≤1100,[(2,pt b1 0),(3,pt b2 0),(5,pt t 0),(6,.func (.func 166) #[pt t 0] #[])],(bx t [.slice (va j.q) y8.length j.k] 269::bx b2 (D6 to_) 65::bx b1 (D6 from_) 65::((vo A0 54 j y8)++([]))),[])) ?_ ?_))
   ·refine bS rfl (cF 5 [2,1] 74 rfl (ie ?_))
    refine zjn rfl hR ?_ ?_<;>clear hR<;>intro hR bg bz
    ·refine A1 5 rfl (c9 4 1 [1] [(75,.func (.func 166) #[pt t 0] #[]),(77,iv to_.under),(78,ag (U2 Col.zero))] ?_)
     have hQ:=C4 hR;clear hR;obtain ⟨bn,aw,hR⟩:=hQ
     refine zc rfl (A4j aw e) fun ⟨bk,aj⟩=>?_
     have:=bT.le aj
     have:=A2h y3 3 to_.under Col.zero;try rw [aw] at this
     refine A2 ?_
     exact W8 (_,_) ⟨hR,aj,ozq⟩ bU bX
    try (have a8:d≤255:=by have q:=bg;simp at q;omega)
    refine A4 ?_
    exact W8 (_,g) ⟨hR,e,ozq⟩ bU bX
   rintro ⟨y8,j⟩
   rintro ⟨hR,a1,hj⟩
   replace hR:=(A4m.eq_1 ..).symm.trans hR
   refine A3 (bS rfl (c9 17 0 [2,1,2,1,2,1] [(95,ag [iv 4,iv from_.fore.kind,iv from_.fore.n,iv to_.fore.kind,iv to_.fore.n,iv 5,iv from_.back.kind,iv from_.back.n,iv to_.back.kind,iv to_.back.n,iv 6,iv from_.line.kind,iv from_.line.n,iv to_.line.kind,iv to_.line.n]),(96,iv 0)] ?_))
   refine ie (A9 (Y9 5 ?_))
   refine E7 (bS rfl (bP 1 97 rfl ?_))
   refine ie (A3 (J4 rfl (A4 (nx (A7y (un fun y6 o=>(A5o from_ to_ y6=R∧bT 6 y6.length o∧y6.length≤1101,[(5,pt t 0),(6,.func (.func 166) #[pt t 0] #[]),(95,ag [iv 4,iv from_.fore.kind,iv from_.fore.n,iv to_.fore.kind,iv to_.fore.n,iv 5,iv from_.back.kind,iv from_.back.n,iv to_.back.kind,iv to_.back.n,iv 6,iv from_.line.kind,iv from_.line.n,iv to_.line.kind,iv to_.line.n]),(96,iv 0)],(bx t [.slice (va o.q) y6.length o.k] 269::bx b2 (D6 to_) 65::bx b1 (D6 from_) 65::((vo A0 54 o y6)++([]))),[])) ?_ ?_)))))
   ·refine A9 (bS rfl (ix rfl (E8 (v:=ag [_,_,_,_,_]) Tryz.underlying274 E8a rfl rfl rfl 0 rfl ozw rfl rfl rfl) ?_))
    refine zra 2 [0] (fun b4=>[(12,pt b4 0)]) (fun _=>[iv 4,iv from_.fore.kind,iv from_.fore.n,iv to_.fore.kind,iv to_.fore.n]) 273 fun b4=>?_
    refine ie (bS rfl (c9 4 1 [0,0] [(100,ag [iv _,iv _]),(102,ag [iv _,iv _])] (ix rfl (Z3 (a:=from_.fore) (b:=to_.fore) C0w rfl rfl rfl) (ie ?_))))
    refine zjn rfl hR ?_ ?_<;>clear hR<;>intro hR c4 bw
    ·refine A1 6 rfl (c9 5 1 [0,0] [(104,.func (.func 166) #[pt t 0] #[]),(106,iv 4),(108,ag [iv to_.fore.kind,iv to_.fore.n])] ?_)
     have hQ:=C4 hR;clear hR;obtain ⟨bh,au,hR⟩:=hQ
     refine zc rfl (A4j au a1) fun ⟨bq,af⟩=>?_
     have:=A2h y8 4 0 to_.fore;try rw [au] at this
     refine A2 ?_
     exact W8 (_,_) ⟨hR,af,ozq⟩ bU bX
    refine A4 ?_
    exact W8 (_,j) ⟨hR,a1,ozq⟩ bU bX
   rintro ⟨y6,o⟩
   rintro ⟨hR,z,hj⟩
   replace hR:=(A5o.eq_1 ..).symm.trans hR
   refine A1 2 rfl (ix rfl (B3 (c:=1) rfl rfl rfl rfl ozw) (bP 1 96 rfl (A2 (E7 (bS rfl (bP 1 97 rfl ?_))))))
   refine ie (A3 (J4 rfl (A4 (nx (A7y (un fun y7 l=>(A5q from_ to_ y7=R∧bT 6 y7.length l∧y7.length≤1102,[(5,pt t 0),(6,.func (.func 166) #[pt t 0] #[]),(95,ag [iv 4,iv from_.fore.kind,iv from_.fore.n,iv to_.fore.kind,iv to_.fore.n,iv 5,iv from_.back.kind,iv from_.back.n,iv to_.back.kind,iv to_.back.n,iv 6,iv from_.line.kind,iv from_.line.n,iv to_.line.kind,iv to_.line.n]),(96,iv 1)],(bx t [.slice (va l.q) y7.length l.k] 269::bx b2 (D6 to_) 65::bx b1 (D6 from_) 65::((vo A0 54 l y7)++([]))),[])) ?_ ?_)))))
   ·refine A9 (bS rfl (ix rfl (E8 (v:=ag [_,_,_,_,_]) Tryz.underlying274 E8a rfl rfl rfl 1 rfl ozw rfl rfl rfl) ?_))
    refine zra 2 [0] (fun b5=>[(12,pt b5 0)]) (fun _=>[iv 5,iv from_.back.kind,iv from_.back.n,iv to_.back.kind,iv to_.back.n]) 273 fun b5=>?_
    refine ie (bS rfl (c9 4 1 [0,0] [(100,ag [iv _,iv _]),(102,ag [iv _,iv _])] (ix rfl (Z3 (a:=from_.back) (b:=to_.back) C0w rfl rfl rfl) (ie ?_))))
    refine zjn rfl hR ?_ ?_<;>clear hR<;>intro hR ca c2
    ·refine A1 6 rfl (c9 5 1 [0,0] [(104,.func (.func 166) #[pt t 0] #[]),(106,iv 5),(108,ag [iv to_.back.kind,iv to_.back.n])] ?_)
     have hQ:=C4 hR;clear hR;obtain ⟨bp,ar,hR⟩:=hQ
     refine zc rfl (A4j ar z) fun ⟨bl,ai⟩=>?_
     have:=A2h y6 5 0 to_.back;try rw [ar] at this
     refine A2 ?_
     exact W8 (_,_) ⟨hR,ai,ozq⟩ bU bX
    refine A4 ?_
    exact W8 (_,o) ⟨hR,z,ozq⟩ bU bX
   rintro ⟨y7,l⟩
   rintro ⟨hR,a0,hj⟩
   replace hR:=(A5q.eq_1 ..).symm.trans hR
   refine A1 2 rfl (ix rfl (B3 (c:=2) rfl rfl rfl rfl ozw) (bP 1 96 rfl (A2 (E7 (bS rfl (bP 1 97 rfl ?_))))))
   refine ie (A3 (J4 rfl (A4 (nx (A7y (un fun al s=>(A5l al=R∧bT 6 al.length s,[(5,pt t 0),(6,.func (.func 166) #[pt t 0] #[]),(95,ag [iv 4,iv from_.fore.kind,iv from_.fore.n,iv to_.fore.kind,iv to_.fore.n,iv 5,iv from_.back.kind,iv from_.back.n,iv to_.back.kind,iv to_.back.n,iv 6,iv from_.line.kind,iv from_.line.n,iv to_.line.kind,iv to_.line.n]),(96,iv 2)],(bx t [.slice (va s.q) al.length s.k] 269::bx b2 (D6 to_) 65::bx b1 (D6 from_) 65::((vo A0 54 s al)++([]))),[])) ?_ ?_)))))
   ·refine A9 (bS rfl (ix rfl (E8 (v:=ag [_,_,_,_,_]) Tryz.underlying274 E8a rfl rfl rfl 2 rfl ozw rfl rfl rfl) ?_))
    refine zra 2 [0] (fun b6=>[(12,pt b6 0)]) (fun _=>[iv 6,iv from_.line.kind,iv from_.line.n,iv to_.line.kind,iv to_.line.n]) 273 fun b6=>?_
    refine ie (bS rfl (c9 4 1 [0,0] [(100,ag [iv _,iv _]),(102,ag [iv _,iv _])] (ix rfl (Z3 (a:=from_.line) (b:=to_.line) C0w rfl rfl rfl) (ie ?_))))
    refine zjn rfl hR ?_ ?_<;>clear hR<;>intro hR c6 c1
    ·refine A1 6 rfl (c9 5 1 [0,0] [(104,.func (.func 166) #[pt t 0] #[]),(106,iv 6),(108,ag [iv to_.line.kind,iv to_.line.n])] ?_)
     have hQ:=C4 hR;clear hR;obtain ⟨bj,ao,hR⟩:=hQ
     refine zc rfl (A4j ao a0) fun ⟨be,ah⟩=>?_
     have:=A2h y7 6 0 to_.line;try rw [ao] at this
     refine A2 ?_
     exact W8 (_,_) ⟨hR,ah⟩ bU bX
    refine A4 ?_
    exact W8 (_,l) ⟨hR,a0⟩ bU bX
   rintro ⟨al,s⟩
   rintro ⟨hR,a7⟩
   replace hR:=(A5l.eq_1 ..).symm.trans hR
   refine A1 2 rfl (ix rfl (B3 (c:=3) rfl rfl rfl rfl ozw) (bP 1 96 rfl (A2 (E7 (bS rfl (bP 1 97 rfl (ie (A3 (A4r rfl (F4 (nx (bS rfl (cF 6 [0] 4 rfl ?_)))))))))))))
   subst hR
   refine ie (A8 ?_)
   exact cD hr hD (K7 rfl (A6 rfl)) ⟨s,a7⟩ bU bX
  try (have a8:d≤255:=by have q:=bd;simp at q;omega)
  refine A4 (nx (bS rfl (cF 6 [1] 60 rfl ?_)))
  refine zia 5 0 60 65 (decide ((bOp .and .i64 a2 d)=0)) (fun bb=>?_) ?_
  ·have c3:=bV bb
   refine bP 5 65 rfl ?_
   exact A2 (J0 2 60 _ bb bX bU rfl rfl rfl rfl rfl)
  refine ie ?_
  refine zjb rfl hR ?_ ?_<;>clear hR<;>intro hR b0
  ·have bc:=bV b0
   refine A1 4 rfl (c9 3 1 [] [(66,.func (.func 166) #[pt t 0] #[]),(67,iv d),(68,ag (U2 Col.zero))] ?_)
   have hQ:=C4 hR;clear hR;obtain ⟨bm,aq,hR⟩:=hQ
   refine zc rfl (A4j aq e) fun ⟨bi,ad⟩=>?_
   have:=A2h y3 1 d Col.zero;try rw [aq] at this
   refine A2 ?_
   exact W8 (_,_) ⟨hR,ad,ozq⟩ bU bX
  try (have a8:d≤255:=by have q:=b0;simp at q;omega)
  refine A4 ?_
  exact W8 (_,g) ⟨hR,e,ozq⟩ bU bX
 rintro ⟨a9,i⟩
 rintro ⟨hR,a5,hj⟩
 replace hR:=(A4o.eq_1 ..).symm.trans hR
 refine A1 3 rfl (bP 1 51 rfl ?_)
 refine ix rfl (D5c rfl rfl rfl ozw (by show IntKind.i64.wrap (d * 2)=_;exact A3i (by simp [IntKind.min,IntKind.signed,IntKind.bits];omega) (by simp [IntKind.max,IntKind.signed,IntKind.bits];omega))) (bP 1 10 rfl (A2 ?_))
 exact A2g (_,_,_,i) ⟨opx,hR,a5,(by first|omega|(rw [A3i (by simp [IntKind.min,IntKind.signed,IntKind.bits];omega) (by simp [IntKind.max,IntKind.signed,IntKind.bits];omega)];omega)),ozq⟩ (Nat.lt_succ_self _) bU bX
def A6r (from_:Sty) (to_:Sty):List Act×Int :=
 (bif (!decide ((P0 from_)=0)) then (([]:List Act),(P0 from_)) else (bif (!decide ((P0 to_)=0)) then (([]:List Act),(P0 to_)) else (B6 (A6l from_ to_) fun (a:List Act)=>(a,0))))
theorem B8j (f t:Sty):(A6r f t).1.length≤21:=by
 have h:=D4z f t;rw [← A9o] at h
 unfold A6r;simp only [B6,Bool.cond_eq_ite];repeat' split
 all_goals first|exact h|simp
theorem B8o (f t:Sty):∀ a ∈ (A6r f t).1,E1d a:=by
 have h:=E3e f t;rw [← A9o] at h
 unfold A6r;simp only [B6,Bool.cond_eq_ite];repeat' split
 all_goals first|exact h|simp
theorem D3i {from_ to_:Sty} {R:List Act×Int} (hR:A6r from_ to_=R):Con Tryz.prog 66 [ag (D6 from_),ag (D6 to_)] [] [] ({r:VR // bT 6 R.1.length r}) (fun x=>.tuple #[.slice (va x.1.q) R.1.length x.1.k,iv R.2]) (fun x=>((vo A0 54 x.1 R.1)++([]))) (fun x=>[]):=by
 refine cC Tryz.func66 fun X hX hr hD=>?_
 replace hR:=(A6r.eq_1 ..).symm.trans hR
 refine bS rfl (B6z 4 [] (fun d f=>[(2,pt d 0),(3,pt f 0)]) (fun _ _=>(D6 from_)) (fun _ _=>(D6 to_)) 65 65 fun d f=>(ie (A3 (bS rfl (c9 4 0 [1,0] [(11,ag [iv from_.attr,iv from_.under,iv from_.fore.kind,iv from_.fore.n,iv from_.back.kind,iv from_.back.n,iv from_.line.kind,iv from_.line.n,iv to_.attr,iv to_.under,iv to_.fore.kind,iv to_.fore.n,iv to_.back.kind,iv to_.back.n,iv to_.line.kind,iv to_.line.n]),(12,iv 0)] (ie (A9 (Y9 4 ?_))))))))
 refine E7 (bS rfl (bP 1 13 rfl ?_))
 refine ie (A3 (J4 rfl (A4 (nx (A3 (A9 (bS rfl (ix rfl (E8 (v:=ag (aD _ [])) Tryz.underlying204 B4v rfl rfl rfl 0 rfl ozw rfl rfl rfl) ?_))))))))
 refine zra 2 [0] (fun g=>[(7,pt g 0)]) (fun _=>(D6 from_)) 65 fun g=>?_
 refine ie (bS rfl (c9 1 2 [0] [(15,ag (D6 from_))] (zv rfl (A5w rfl) (bP 1 8 rfl (ie (bS rfl (bP 2 18 rfl (ie ?_))))))))
 refine zjn rfl hR ?_ ?_<;>clear hR<;>intro hR o l
 ·refine bS rfl (cG 3 4 5 rfl ?_)
  subst hR
  refine ie (A8 ?_)
  exact cD hr hD (U0 rfl (A6 rfl) (A6 rfl)) ⟨_,bT.nil⟩ bU bX
 refine A4 (nx (A1 2 rfl (ix rfl (B3 (c:=1) rfl rfl rfl rfl ozw) (bP 1 12 rfl (A2 (E7 (bS rfl (bP 1 13 rfl (ie (A3 (J4 rfl (A4 (nx (A3 (A9 (bS rfl (ix rfl (E8 (v:=ag (aD _ [])) Tryz.underlying204 B4v rfl rfl rfl 1 rfl ozw rfl rfl rfl) ?_)))))))))))))))))
 refine zra 2 [0] (fun e=>[(7,pt e 0)]) (fun _=>(D6 to_)) 65 fun e=>?_
 refine ie (bS rfl (c9 1 2 [0] [(15,ag (D6 to_))] (zv rfl (A5w rfl) (bP 1 8 rfl (ie (bS rfl (bP 2 18 rfl (ie ?_))))))))
 refine zjn rfl hR ?_ ?_<;>clear hR<;>intro hR m h
 ·refine bS rfl (cG 3 4 5 rfl ?_)
  subst hR
  refine ie (A8 ?_)
  exact cD hr hD (U0 rfl (A6 rfl) (A6 rfl)) ⟨_,bT.nil⟩ bU bX
 refine A4 (nx (A1 2 rfl (ix rfl (B3 (c:=2) rfl rfl rfl rfl ozw) (bP 1 12 rfl (A2 (E7 (bS rfl (bP 1 13 rfl (ie (A3 (A4r rfl (F4 (nx (bS rfl (c9 2 3 [3,2] [(21,ag (D6 from_)),(22,ag (D6 to_))] ?_)))))))))))))))
 have i:=C4 hR;clear hR;obtain ⟨p,b,hR⟩:=i
 refine zc rfl (C1g b) fun ⟨j,a⟩=>?_
 have:=B8q from_ to_;try rw [b] at this
 refine cG 2 4 5 rfl ?_
 subst hR
 refine ie (A8 ?_)
 exact cD hr hD (U0 rfl (A6 rfl) (A6 rfl)) _ bU bX
def B4r (to_:Sty):List Act :=
 (B6 (A6l Sty.zero to_) fun (a:List Act)=>(([{Act.zero with kind:=39,n:=0}]:List Act)++a))
theorem C6j (t:Sty):B4r t=kA 0 0::chg Sty.zero t:=by unfold B4r B6;rw [A9o];rfl
theorem C3u (t:Sty):(B4r t).length≤22:=by rw [C6j];have:=D4z Sty.zero t;simp only [List.length_cons];omega
theorem C3e (t:Sty):∀ a ∈ B4r t,E1d a:=by
 rw [C6j];intro a b
 rcases List.mem_cons.1 b with rfl | b
 ·exact ⟨rfl,rfl⟩
 ·exact E3e _ _ a b
theorem E0s {to_:Sty} {R:List Act} (hR:B4r to_=R):Con Tryz.prog 67 [ag (D6 to_)] [] [] ({r:VR // bT 6 R.length r}) (fun x=>.slice (va x.1.q) R.length x.1.k) (fun x=>((vo A0 54 x.1 R)++([]))) (fun x=>[]):=by
 refine cC Tryz.func67 fun X hX hr hD=>?_
 replace hR:=(B4r.eq_1 ..).symm.trans hR
 refine bS rfl (zra 2 [] (fun b=>[(1,pt b 0)]) (fun _=>(D6 to_)) 65 fun b=>(ie (bS rfl (c9 1 6 [] [(3,ag (A0 ({Act.zero with kind:=39,n:=0})))] (it rfl (B2z (c:=A0) (xs:=[{Act.zero with kind:=39,n:=0}]) Q1 rfl rfl rfl oki) fun g=>?_)))))
 have:([{Act.zero with kind:=39,n:=0}]:List Act).length=1:=rfl
 refine c9 1 4 [] [(5,ag (D6 Sty.zero))] (ix rfl (G7 (us:=D6 _) B4v rfl rfl 1 rfl rfl rfl) ?_)
 have j:=C4 hR;clear hR;obtain ⟨i,h,hR⟩:=j
 refine it rfl (L6 (L2:=((vo A0 54 (⟨some g,1,[]⟩:VR) ([{Act.zero with kind:=39,n:=0}]:List Act))++(bx b (D6 to_) 65::[]))) (C1g (from_:=Sty.zero) (to_:=to_) h) rfl rfl rfl rfl rfl bX (List.Perm.refl _) (fun ⟨e,a⟩=>(bx b (D6 to_) 65::((vo A0 54 e i)++((vo A0 54 (⟨some g,1,[]⟩:VR) ([{Act.zero with kind:=39,n:=0}]:List Act))++([]))))) (fun ⟨e,a⟩=>I1 [vo A0 54 e i,vo A0 54 (⟨some g,1,[]⟩:VR) ([{Act.zero with kind:=39,n:=0}]:List Act),[bx b (D6 to_) 65]] [2,0,1] 3 rfl ozw opv [[bx b (D6 to_) 65],vo A0 54 e i,vo A0 54 (⟨some g,1,[]⟩:VR) ([{Act.zero with kind:=39,n:=0}]:List Act)] rfl opv)) fun ⟨e,a⟩=>?_
 have:=bT.le a
 have:=B8q Sty.zero to_;try rw [h] at this
 refine R5 [_] _ a opv ?_
 refine it rfl (A4i (f:=A0) (r:=(⟨some g,1,[]⟩:VR)) (xs:=([{Act.zero with kind:=39,n:=0}]:List Act)) (ys:=i) (pre:=[bx b (D6 to_) 65]) (post:=[]) A4u (fun _=>rfl) (fun _=>rfl) rfl rfl rfl rfl rfl rfl rfl rfl (A5 0 rfl) (show bT 6 1 _ from ⟨rfl,Nat.le_refl _,Nat.le_of_ble_eq_true rfl⟩) ofv ofv) fun ⟨l,d⟩=>?_
 refine bP 1 2 rfl ?_
 subst hR
 refine ie (A8 ?_)
 exact cD hr hD (K7 rfl (A6 rfl)) _ bU bX
def C3s (l:List Act):Int×Int :=
 (B6 (R1 l) fun (a:List UInt8×Int)=>((a.1.length:Int),a.2))
theorem D1q {l:List Act} {lq:Option Addr} {lk:Nat} {R:Int×Int} (hR:C3s l=R) (g:l.length≤9223372036854775807:=by exact bW) (i:l.length≤lk:=by exact bW) (c:∀ a ∈ l,E1d a:=by exact bW) (f:l.length≤2000:=by exact bW):J5 Tryz.prog 68 [.slice lq l.length lk] [sl A0 lq l,U5,U8,J2,M2] (.tuple #[iv R.1,iv R.2]):=by
 refine cC Tryz.func68 fun X hX hr hD=>?_
 replace hR:=(C3s.eq_1 ..).symm.trans hR
 refine bS rfl (pp0 2 rfl (ie (bS rfl (bP 1 7 rfl ?_))))
 have h:=C4 hR;clear hR;obtain ⟨j,d,hR⟩:=h
 refine zc rfl (B0k d bW bW (by first|exact B7c hel|exact A2p hbm|exact A2p (B6x hwq.1 _)|exact fun x b=>⟨by rw [(c x b).2];exact Nat.zero_le _,by rw [(c x b).1];decide⟩|exact fun x b=>hnt x b|assumption|decide|exact fun x b=>Nat.le_trans (hrow x b) ozw|exact fun x b=>Nat.le_trans (of_decide_eq_true (List.all_eq_true.1 hbt x b)) ozw|(intro x b;simp only [List.nil_append,List.mem_append] at b;rcases b with b|b<;>first|exact Nat.le_trans (hrow x b) ozw|exact Nat.le_trans (hpt x b) ozw)|(intro x b;rw [List.mem_singleton.1 b];omega)|exact fun x b=>Nat.le_trans (hrow x (List.mem_of_mem_take b)) ozw|exact fun x b=>Nat.le_trans (hrow x (List.mem_of_mem_drop b)) ozw|exact fun x b=>Nat.le_trans (hrow x (List.mem_of_mem_drop (List.mem_of_mem_take b))) ozw|omega)) fun ⟨k,e⟩=>?_
 try have:=A6n l (fun x b=>Nat.le_trans (hrow x (by first|exact b|exact List.mem_of_mem_take b|exact List.mem_of_mem_drop b)) ozw);try rw [d] at this
 refine cG 5 4 5 rfl (ie (bS rfl (cG 5 2 3 rfl ?_)))
 subst hR
 refine ie (A8 ?_)
 exact B4w hr hD
def A9d (from_:Sty) (to_:Sty):List Act×Int :=
 (B6 (A6r from_ to_) fun (a:List Act×Int)=>(bif ((!decide (a.2=0))||(decide (from_=to_))) then (([]:List Act),a.2) else (B6 (B4r to_) fun (b:List Act)=>(B6 (C3s a.1) fun (d:Int×Int)=>(B6 (C3s b) fun (c:Int×Int)=>(bif (((!decide (d.2=0))||(!decide (c.2=0)))||(decide (d.1≤c.1))) then (a.1,0) else (b,0)))))))
theorem B1o (f t:Sty):(A9d f t).1.length≤22:=by
 have h:=B8j f t;have a:=C3u t
 unfold A9d;simp only [B6,Bool.cond_eq_ite];repeat' split
 all_goals first|exact a|exact Nat.le_trans h opx|simp
theorem A8e (f t:Sty):∀ a ∈ (A9d f t).1,E1d a:=by
 have h:=B8o f t;have b:=C3e t
 unfold A9d;simp only [B6,Bool.cond_eq_ite];repeat' split
 all_goals first|exact b|exact h|simp
theorem ojv {p:Prop} (h:p:=by first|assumption|omega):p:=h
theorem C7f {from_ to_:Sty} {R:List Act×Int} (hR:A9d from_ to_=R):Con Tryz.prog 41 [ag (D6 from_),ag (D6 to_)] [] [U5,U8,J2,M2] ({r:VR // bT 6 R.1.length r}) (fun x=>.tuple #[.slice (va x.1.q) R.1.length x.1.k,iv R.2]) (fun x=>((vo A0 54 x.1 R.1)++([]))) (fun x=>[]):=by
 refine cC Tryz.func41 fun X hX hr hD=>?_
 replace hR:=(A9d.eq_1 ..).symm.trans hR
 refine bS rfl (B6z 4 [] (fun p t=>[(2,pt p 0),(3,pt t 0)]) (fun _ _=>(D6 from_)) (fun _ _=>(D6 to_)) 65 65 fun p t=>(ie (bS rfl (c9 2 6 [1,0] [(13,ag (D6 from_)),(14,ag (D6 to_))] ?_))))
 have g:=C4 hR;clear hR;obtain ⟨z,f,hR⟩:=g
 refine zc rfl (D3i f) fun ⟨y,c⟩=>?_
 have:=bT.le c
 have:=bT.cap c
 have:=B8j from_ to_;try rw [f] at this
 have:=B8o from_ to_;try rw [f] at this
 refine cG 5 6 7 rfl (ie (A3 (bS rfl (bP 3 20 rfl ?_))))
 refine zio 4 0 20 24 (decide (from_=to_)) (fun v=>?_) ?_
 ·have a4:=bV v
  refine c9 2 2 [1,0] [(21,ag _),(22,ag _)] (ix rfl (A9u (a:=from_) (b:=to_) E3u rfl rfl rfl) (bP 1 24 rfl ?_))
  exact A2 (J0 5 20 _ v A7.refl bU rfl rfl rfl rfl rfl)
 refine ie ?_
 refine zjb rfl hR ?_ ?_<;>clear hR<;>intro hR u
 ·have n:=bV u
  refine bS rfl (cG 3 4 5 rfl ?_)
  subst hR
  refine ie (A8 ?_)
  exact cD hr hD (U0 rfl (A6 rfl) (A6 rfl)) ⟨_,bT.nil⟩ bU bX
 have n:=bV u
 refine A4 (nx (bS rfl (c9 1 2 [0] [(26,ag (D6 to_))] ?_)))
 have g:=C4 hR;clear hR;obtain ⟨a0,e,hR⟩:=g
 refine zc rfl (E0s e) fun ⟨r7,d⟩=>?_
 have:=bT.le d
 have:=bT.cap d
 have:=C3u to_;try rw [e] at this
 have:=C3e to_;try rw [e] at this
 refine bP 1 8 rfl (ie (bS rfl (bP 1 29 rfl ?_)))
 have:=bT.cap c
 have:=bT.le c
 have g:=C4 hR;clear hR;obtain ⟨y4,o,hR⟩:=g
 refine zc rfl (Con.lend (T:=54) c (D1q o bW bW ojv)) fun _=>?_
 refine cG 5 9 7 rfl (ie (bS rfl (bP 1 34 rfl ?_)))
 have:=bT.cap d
 have:=bT.le d
 have g:=C4 hR;clear hR;obtain ⟨j,h,hR⟩:=g
 refine zc rfl (Con.lend (T:=54) d (D1q h bW bW ojv)) fun _=>?_
 refine cG 5 10 11 rfl (ie (A3 (bS rfl (bP 3 40 rfl ?_))))
 refine zio 3 5 40 43 (!decide (j.2=0)) (fun s=>?_) ?_
 ·have a2:=bV s
  refine bP 3 43 rfl ?_
  exact A2 (J0 2 40 _ s A7.refl bU rfl rfl rfl rfl rfl)
 refine bP 1 44 rfl ?_
 refine zio 4 0 44 48 (decide (y4.1≤j.1)) (fun l=>?_) ?_
 ·have w:=bV l
  refine bP 4 48 rfl ?_
  exact A2 (J0 2 44 _ l A7.refl bU rfl rfl rfl rfl rfl)
 refine ie ?_
 refine zjb rfl hR ?_ ?_<;>clear hR<;>intro hR m
 ·have i:=bV m
  refine bS rfl (cG 3 4 5 rfl ?_)
  subst hR
  refine ie (A8 ?_)
  exact cD hr hD (U0 rfl (A6 rfl) (A6 rfl)) ⟨y,c⟩ bU bX
 have i:=bV m
 refine A4 (nx (bS rfl (cG 3 4 5 rfl ?_)))
 subst hR
 refine ie (A8 ?_)
 exact cD hr hD (U0 rfl (A6 rfl) (A6 rfl)) ⟨r7,d⟩ bU bX
theorem E2q:EqT Tryz.prog 73 D8:=EqT.of 20 rfl oki oki (fun _ _=>by kernel_rfl) D8.inj
def B1z (c:Cel):Bool :=
 (decide (c={Cel.zero with wide:=2,sty:=c.sty}))
theorem E1u {c:Cel} {R:Bool} (hR:B1z c=R):J5 Tryz.prog 122 [ag (D8 c)] [] (bv R):=by
 refine cC Tryz.func122 fun X hX hr hD=>?_
 replace hR:=(B1z.eq_1 ..).symm.trans hR
 refine bS rfl (zra 2 [] (fun d=>[(1,pt d 0)]) (fun _=>(D8 c)) 73 fun d=>(ie (bS rfl (c9 4 2 [0,0] [(3,ag _),(6,ag _)] (ix rfl (A9u (a:=c) (b:={Cel.zero with wide:=2,sty:=c.sty}) E2q rfl rfl rfl) (bP 1 2 rfl ?_))))))
 subst hR
 refine ie (A8 ?_)
 exact F7 hr hD
def B1d (l:Ar2):Bool :=
 (bif ((!decide (l.a=0))&&(!decide ((A4e l.a)=0))) then false else (bif ((!decide (l.b=0))&&((decide (l.a=0))||(!decide ((A4e l.b)=0)))) then false else true))
theorem D5l {l:Ar2} {R:Bool} (hR:B1d l=R):J5 Tryz.prog 123 [ag (A0r l)] [U5,U8] (bv R):=by
 refine cC Tryz.func123 fun X hX hr hD=>?_
 replace hR:=(B1d.eq_1 ..).symm.trans hR
 refine bS rfl (zra 2 [] (fun g=>[(1,pt g 0)]) (fun _=>(A0r l)) 71 fun g=>(ie (bS rfl (bP 1 3 rfl (ie (A3 (bS rfl (c9 2 0 [0] [(6,ag (A0r l)),(7,iv 0)] (ie (A9 (Y9 4 ?_)))))))))))
 refine E7 (bS rfl (bP 1 8 rfl ?_))
 refine ie (A3 (J4 rfl (A4 (nx (A3 (A9 (bS rfl (ix rfl (E8 Tryz.underlying71 cH rfl rfl rfl 0 rfl ozw rfl rfl rfl) (bP 1 5 rfl (ie (A3 (bS rfl (bP 3 12 rfl ?_)))))))))))))
 refine zia 7 0 12 19 (!decide ((A4e l.a)=0)) (fun i=>?_) ?_
 ·have m:=bV i
  refine cG 3 14 15 rfl (zv rfl (B7t rfl) (bP 3 19 rfl ?_))
  exact zai 5 12 _ i
 refine ie ?_
 refine zjb rfl hR ?_ ?_<;>clear hR<;>intro hR h
 ·have e:=bV h
  refine bS rfl (bP 1 2 rfl ?_)
  subst hR
  refine ie (A8 ?_)
  exact F7 hr hD
 refine A4 (nx (A1 6 rfl (bP 6 3 rfl (A2 (nx (A1 2 rfl (ix rfl (B3 (c:=1) rfl rfl rfl rfl ozw) (bP 1 7 rfl (A2 (E7 (bS rfl (bP 1 8 rfl (ie (A3 (J4 rfl (A4 (nx (A3 (A9 (bS rfl (ix rfl (E8 Tryz.underlying71 cH rfl rfl rfl 1 rfl ozw rfl rfl rfl) (bP 1 5 rfl (ie (A3 (bS rfl (bP 3 12 rfl ?_))))))))))))))))))))))))))
 refine zia 7 0 12 19 ((decide (l.a=0))||(!decide ((A4e l.b)=0))) (fun f=>?_) ?_
 ·have n:=bV f
  refine bP 2 14 rfl ?_
  refine zir 4 1 14 18 (!decide ((A4e l.b)=0)) (fun o p=>?_) ?_
  ·refine bP 1 15 rfl (zv rfl (B7t rfl) (bP 2 18 rfl ?_))
   exact zai 4 14 _ o
  refine bP 1 19 rfl ?_
  exact zai 4 12 _ f
 refine ie ?_
 refine zjb rfl hR ?_ ?_<;>clear hR<;>intro hR j
 ·have d:=bV j
  refine bS rfl (bP 1 2 rfl ?_)
  subst hR
  refine ie (A8 ?_)
  exact F7 hr hD
 refine A4 (nx (A1 6 rfl (bP 2 21 rfl ?_)))
 refine zir 3 1 21 24 (decide (l.b=0)) (fun q k=>?_) ?_
 ·refine bP 3 24 rfl ?_
  exact zai 2 21 _ q
 refine bP 1 3 rfl (A2 (nx (A1 2 rfl (ix rfl (B3 (c:=2) rfl rfl rfl rfl ozw) (bP 1 7 rfl (A2 (E7 (bS rfl (bP 1 8 rfl (ie (A3 (A4r rfl (F4 (nx (bS rfl (bP 1 2 rfl ?_))))))))))))))))
 subst hR
 refine ie (A8 ?_)
 exact F7 hr hD
def Y6 (c:Cel):Int :=
 (bif ((!((B1z c)||((((decide ((0:Int)≤c.wide))&&(decide (c.wide≤1)))&&(decide ((A4e c.base)=(IntKind.i64.wrap (c.wide+(1:Int))))))&&(B1d c.marks))))||(!decide ((P0 c.sty)=0))) then 221 else 0)
theorem C8a {c:Cel} {R:Int} (hR:Y6 c=R):J5 Tryz.prog 80 [ag (D8 c)] [U5,U8] (iv R):=by
 refine cC Tryz.func80 fun X hX hr hD=>?_
 replace hR:=(Y6.eq_1 ..).symm.trans hR
 refine bS rfl (zra 2 [] (fun e=>[(1,pt e 0)]) (fun _=>(D8 c)) 73 fun e=>(ie (sd 27 rfl oki rfl ?_)))
 refine zdg 1 26 [0] [(4,ag (D8 c))] ?_
 refine zvd rfl (E1u rfl) (pd1 1 6 rfl ?_)
 refine zdO _ 1 6 29 ((((decide (0≤c.wide))&&(decide (c.wide≤1)))&&(decide ((A4e c.base)=(IntKind.i64.wrap (c.wide+1)))))&&(B1d c.marks)) (fun j=>?_) ?_
 ·refine pg1 4 [0] 10 rfl ?_
  refine zdd 4 15 10 14 (decide (c.wide≤1)) (fun m k=>?_) ?_
  ·refine pg1 4 [0] 14 rfl ?_
   exact zad 2 10 _ m
  refine pd1 1 15 rfl ?_
  refine zda 8 6 15 23 (decide ((A4e c.base)=(IntKind.i64.wrap (c.wide+1)))) (fun b=>?_) ?_
  ·have i:=bV b
   refine pg1 2 [0] 17 rfl (zvd rfl (B7t rfl) (pg1 2 [0] 20 rfl (dd rfl (J9.pure rfl) (pd1 2 23 rfl ?_))))
   exact zad 6 15 _ b
  refine pd1 1 24 rfl ?_
  refine zda 4 1 24 28 (B1d c.marks) (fun f=>?_) ?_
  ·have l:=bV f
   refine zdg 2 2 [0] [(26,ag (A0r c.marks))] ?_
   refine zvd rfl (D5l rfl) (pd1 1 28 rfl ?_)
   exact zad 4 24 _ f
  refine pd1 1 29 rfl ?_
  exact zad 8 6 _ j
 refine pd1 1 3 rfl (de (A3 (bS rfl (bP 3 32 rfl ?_))))
 refine zio 5 0 32 37 (!decide ((P0 c.sty)=0)) (fun d=>?_) ?_
 ·have h:=bV d
  refine c9 2 3 [0] [(34,ag (D6 c.sty))] (zv rfl (A5w rfl) (bP 2 37 rfl ?_))
  exact zai 4 32 _ d
 refine ie ?_
 refine zjb rfl hR ?_ ?_<;>clear hR<;>intro hR g
 ·have a:=bV g
  refine bS rfl (bP 1 2 rfl ?_)
  subst hR
  refine ie (A8 ?_)
  exact F7 hr hD
 refine A4 (nx (bS rfl (bP 1 2 rfl ?_)))
 subst hR
 refine ie (A8 ?_)
 exact F7 hr hD
def Z6:List Cel→Nat→Cel→Int
 | [],t19,last=>(bif (decide (last.wide=1)) then 220 else 0)
 | hd_l0::tl_l0,t19,last=>(bif (((!decide ((Y6 hd_l0)=0))||(!((decide (last.wide=1)) == (decide (hd_l0.wide=2)))))||((decide (hd_l0.wide=2))&&(!(decide (hd_l0.sty=last.sty))))) then 220 else Z6 tl_l0 (t19+1) hd_l0)
def S1 (bB:List Cel) (bC:Bool):Int :=
 (bif ((decide ((bB.length:Int)<2))||(decide ((80:Int)<(bB.length:Int)))) then 220 else Z6 bB 0 Cel.zero)
theorem E4j {c:Cel} (h:B1z c=true):c.wide=2:=by
 unfold B1z at h;rw [of_decide_eq_true h]
theorem E4n {c:Cel} (h:Y6 c=0):0≤c.wide∧c.wide≤2:=by
 unfold Y6 at h
 cases h1:B1z c with
 | true=>have:=E4j h1;omega
 | false =>
  rw [h1] at h
  by_cases h2:0≤c.wide∧c.wide≤1
  ·omega
  ·rw [show ((decide ((0:Int)≤c.wide))&&(decide (c.wide≤1)))=false by simp only [Bool.and_eq_false_iff,decide_eq_false_iff_not];omega] at h
   simp at h
theorem D4m:∀ (l:List Cel) (t:Nat) (last:Cel),Z6 l t last=0→∀ c ∈ l,0≤c.wide∧c.wide≤2
 | [],_,_,_=>fun c a=>by cases a
 | x::l,t,last,h=>by
  rw [Z6] at h
  by_cases h0:Y6 x=0
  ·intro c a
   rcases List.mem_cons.1 a with rfl | a
   ·exact E4n h0
   ·cases hb:(((!decide ((Y6 x)=0))||(!((decide (last.wide=1)) == (decide (x.wide=2)))))||((decide (x.wide=2))&&(!(decide (x.sty=last.sty))))) with
    | true=>rw [hb] at h;exact absurd (show (220:Int)=0 from h) ozw
    | false=>rw [hb] at h;exact D4m l (t+1) x h c a
  ·rw [decide_eq_false h0] at h;exact absurd (show (220:Int)=0 from h) ozw
theorem B3b {l:List Cel} {w:Bool} (h:S1 l w=0):2≤l.length∧l.length≤80∧∀ c ∈ l,0≤c.wide∧c.wide≤2:=by
 unfold S1 at h
 by_cases hl:2≤l.length∧l.length≤80
 ·rw [show ((decide ((l.length:Int)<2))||(decide ((80:Int)<(l.length:Int))))=false by simp only [Bool.or_eq_false_iff,decide_eq_false_iff_not];omega] at h
  exact ⟨hl.1,hl.2,D4m l 0 Cel.zero h⟩
 ·rw [show ((decide ((l.length:Int)<2))||(decide ((80:Int)<(l.length:Int))))=true by simp only [Bool.or_eq_true,decide_eq_true_eq];omega] at h
  exact absurd (show (220:Int)=0 from h) ozw
theorem C6m {bB:List Cel} {bC:Bool} {aY:Option Addr} {bA:Nat} {R:Int} (hR:S1 bB bC=R) (y:bB.length≤9223372036854775807:=by exact bW) (bG:bB.length≤bA:=by exact bW):J5 Tryz.prog 50 [ag [.slice aY bB.length bA,bv bC]] [sl D8 aY bB,U5,U8] (iv R):=by
 refine cC Tryz.func50 fun X hX hr hD=>?_
 replace hR:=(S1.eq_1 ..).symm.trans hR
 refine bS rfl (zra 2 [] (fun l=>[(1,pt l 0)]) (fun _=>[.slice aY bB.length bA,bv bC]) 87 fun l=>(ie (A3 (bS rfl (cF 4 [0] 3 rfl (ie (bS rfl (bP 3 12 rfl ?_))))))))
 refine zir 3 0 12 15 (decide (80<(bB.length:Int))) (fun u w=>?_) ?_
 ·refine bP 3 15 rfl ?_
  exact zai 2 12 _ u
 refine ie ?_
 refine zjo rfl hR ?_ ?_<;>clear hR<;>intro hR h3 v
 ·refine bS rfl (bP 1 2 rfl ?_)
  subst hR
  refine ie (A8 ?_)
  exact F7 hr hD
 refine A4 (nx (bS rfl (zra 1 [] (fun i=>[(4,_)]) _ _ fun i=>(ie (A3 (bS rfl (pl3 4 [1] 17 18 19 rfl (ie (A9 (A3q (un fun d last=>(d≤bB.length∧Z6 (bB.drop d) d last=R,[(4,pt i 0),(17,_),(18,iv _),(19,iv d)],[bx i (D8 last) 73,_],_,bB.length - d)) (0,_) ⟨opx,hR⟩ bU A7.refl ?_))))))))))
 rintro ⟨d,last⟩ ⟨x,hR⟩
 refine bS rfl (bP 1 20 rfl ?_)
 refine ie (A3 (G4 rfl (fun o=>?_) (fun o=>?_)))
 ·have g:=bV o
  rw [A1b Cel.zero (show d<bB.length by omega)] at hR;replace hR:=(Z6.eq_2 ..).symm.trans hR
  refine A4 (nx (A3 (A9 (bS rfl (K8 0 rfl opx fun z e=>(ix rfl (F8 A1g rfl rfl e rfl d rfl opx) (ix rfl (K3 D2l rfl rfl (H2 (sz:=12) e (fun _=>rfl) 0 rfl (gd Cel.zero opx)) rfl) ?_)))))))
  refine zra 2 [0] (fun m=>[(6,pt m 0)]) (fun _=>(D8 (bB.getD d Cel.zero))) 73 fun m=>?_
  refine ie (A3 (bS rfl (c9 1 23 [0] [(23,ag (D8 (bB.getD d Cel.zero)))] (zv rfl (C8a rfl) (bP 2 26 rfl ?_)))))
  refine zio 8 12 26 34 (!((decide (last.wide=1)) == (decide ((bB.getD d Cel.zero).wide=2)))) (fun k=>?_) ?_
  ·have q:=bV k
   refine pl2 6 [1,0] 29 32 rfl (ix rfl (D6f Tryz.underlying4 rfl rfl rfl) (bP 1 34 rfl ?_))
   exact zai 5 26 _ k
  refine bP 1 35 rfl ?_
  refine zio _ 0 35 46 ((decide ((bB.getD d Cel.zero).wide=2))&&(!(decide ((bB.getD d Cel.zero).sty=last.sty)))) (fun h=>?_) ?_
  ·have p:=bV h
   refine cF 4 [0] 39 rfl ?_
   refine zid 6 1 39 45 (!(decide ((bB.getD d Cel.zero).sty=last.sty))) (fun n s=>?_) ?_
   ·refine c9 4 2 [0,1] [(41,ag _),(43,ag _)] (ix rfl (Z3 (a:=(bB.getD d Cel.zero).sty) (b:=last.sty) E3u rfl rfl rfl) (bP 1 45 rfl ?_))
    exact zai 5 39 _ n
   refine bP 1 46 rfl ?_
   exact zai 4 35 _ h
  refine ie ?_
  refine zjb rfl hR ?_ ?_<;>clear hR<;>intro hR f
  ·have j:=bV f
   refine bS rfl (bP 1 2 rfl ?_)
   subst hR
   refine ie (A8 ?_)
   exact F7 hr hD
  refine A4 (nx (A1 2 rfl (zrg 2 0 [0,1] [] [bx m (D8 (bB.getD d Cel.zero)) 73,bx i (D8 (bB.getD d Cel.zero)) 73,bx l [.slice aY bB.length bA,bv bC] 87] (A2 (nx (A1 2 rfl (ix rfl (B3 rfl rfl rfl rfl opx) (bP 1 19 rfl (A2 ?_)))))))))
  exact A2g (_,_) ⟨opx,hR⟩ olr bU A7.refl
 have g:=bV o
 rw [A1d g] at hR;replace hR:=(Z6.eq_1 ..).symm.trans hR
 refine F4 (nx (A3 (bS rfl (cF 3 [0] 51 rfl ?_))))
 refine ie ?_
 refine zjd rfl hR ?_ ?_<;>clear hR<;>intro hR t r
 ·refine bS rfl (bP 1 2 rfl ?_)
  subst hR
  refine ie (A8 ?_)
  exact F7 hr hD
 refine A4 (nx (bS rfl (bP 1 2 rfl ?_)))
 subst hR
 refine ie (A8 ?_)
 exact F7 hr hD
theorem F0x:EqT Tryz.prog 71 A0r:=EqT.of 20 rfl oki oki (fun _ _=>by kernel_rfl) A0r.inj
def B3u (c:Cel):Bool :=
 ((decide (c.wide=0))&&(decide (c.marks=Ar2.zero)))
theorem C3t {c:Cel} {R:Bool} (hR:B3u c=R):J5 Tryz.prog 207 [ag (D8 c)] [] (bv R):=by
 refine cC Tryz.func207 fun X hX hr hD=>?_
 replace hR:=(B3u.eq_1 ..).symm.trans hR
 refine bS rfl (zra 2 [] (fun d=>[(1,pt d 0)]) (fun _=>(D8 c)) 73 fun d=>(ie (bS rfl (cF 4 [0] 6 rfl ?_))))
 refine zid 5 1 6 11 (decide (c.marks=Ar2.zero)) (fun e f=>?_) ?_
 ·refine c9 3 2 [0] [(8,ag (A0r c.marks)),(9,ag (A0r Ar2.zero))] (ix rfl (A9u (a:=c.marks) (b:=Ar2.zero) F0x rfl rfl rfl) (bP 1 11 rfl ?_))
  exact A2 (J0 5 6 11 e bX bU rfl rfl rfl rfl rfl)
 refine bP 1 2 rfl ?_
 subst hR
 refine ie (A8 ?_)
 exact F7 hr hD
structure Prn where
 sign:Cel
 many:Int
 at_:Int
 til:Int
deriving DecidableEq
def F5 (x:Prn):List Value:=D8 x.sign++([.int .i64 x.many,.int .i64 x.at_,.int .i64 x.til])
def Prn.zero:Prn:=⟨Cel.zero,0,0,0⟩
theorem F5.inj (x y:Prn) (h:F5 x=F5 y):x=y:=by
 rcases x with ⟨⟨_,⟨_,_⟩,_,⟨_,_,⟨_,_⟩,⟨_,_⟩,⟨_,_⟩⟩⟩,_,_,_⟩
 rcases y with ⟨⟨_,⟨_,_⟩,_,⟨_,_,⟨_,_⟩,⟨_,_⟩,⟨_,_⟩⟩⟩,_,_,_⟩
 simp [A0r,D8,U2,F5,D6,bs] at h
 simp_all
theorem E8t {c0 c1:Int} {c2:List Cel} {r:Prn} (d:(∀ c ∈ c2,0≤c.wide∧c.wide≤2)∧c2.length≤80∧0≤c0∧c1≤c2.length) (h:r.til<c1∧c2.getD r.til.toNat Cel.zero=r.sign) (e:0≤r.til):0≤r.sign.wide∧r.sign.wide≤2:=by
 have a:r.til.toNat<c2.length:=by omega
 have b:=h.2
 rw [gdE a] at b
 rw [← b];exact d.1 _ (List.getElem_mem a)
def I3 (l:List Cel) (from_:Int) (to_:Int):Int×Int×List Cel :=
 (from_,to_,l)
theorem D6u {l:List Cel} {from_ to_:Int} {lq:Option Addr} {lk:Nat} {R:Int×Int×List Cel} (hR:I3 l from_ to_=R) (d:l.length≤9223372036854775807:=by exact bW) (e:l.length≤lk:=by exact bW):Con Tryz.prog 105 [.slice lq l.length lk,iv from_,iv to_] [] [sl D8 lq l] (Nat×Addr×Addr×{t:Option Addr×Nat // R.2.2.length≤t.2∧R.2.2.length≤9223372036854775807}) (fun x=>.func (.func 162) #[] #[pt x.1 0,pa x.2.1,pa x.2.2.1]) (fun x=>[bx x.1 [iv R.1] 3]) (fun x=>[at_ x.2.1 [iv R.2.1],at_ x.2.2.1 [.slice x.2.2.2.1.1 R.2.2.length x.2.2.2.1.2],sl D8 x.2.2.2.1.1 R.2.2]):=by
 refine cC Tryz.func105 fun X hX hr hD=>?_
 replace hR:=(I3.eq_1 ..).symm.trans hR
 refine bS rfl (it rfl (A0h (cs:=[.slice lq l.length lk]) rfl rfl rfl) fun b=>?_)
 refine A3w 0 rfl ?_
 refine zra 1 [] (fun a=>[(4,pt a 0)]) (fun _=>[iv from_]) 3 fun a=>?_
 refine it rfl (A0h (cs:=[iv to_]) rfl rfl rfl) fun c=>?_
 refine A3w 0 rfl ?_
 refine pp0 1 rfl (ie (bS rfl (ip' 2 0 [(6,.func (.func 162) #[] #[pt a 0,pa ⟨c,0,none⟩,pa ⟨b,0,none⟩])] ?_)))
 subst hR
 refine ie (A8 ?_)
 exact cD hr hD (K7 rfl (A6 rfl)) (a,⟨c,0,none⟩,⟨b,0,none⟩,(zq lq lk)) bU cB
end Go.Proofs.YtgimbmncdmnklaaGreatDoor
