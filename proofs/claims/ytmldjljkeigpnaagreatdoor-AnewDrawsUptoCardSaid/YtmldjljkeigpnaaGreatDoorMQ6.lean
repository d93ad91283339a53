import Derived.Test.YtmldjljkeigpnaaGreatDoorMQ5
import Derived.Test.YtmldjljkeigpnaaGreatDoorMQ4
set_option linter.unusedVariables false
set_option linter.unusedSimpArgs false
set_option linter.unnecessarySimpa false
set_option maxRecDepth 100000
namespace Go.Proofs.YtmldjljkeigpnaaGreatDoor
open Go Go.Fen
section
variable {m n:Int} {p:List UInt8}
theorem iw (b:-9223372036854775808≤m) (a:m≤9223372036854775807):IntKind.i64.wrap m=m:=by grind[A3b,IntKind.min,IntKind.signed,IntKind.bits,IntKind.max]
theorem uw (b:0≤m) (a:m≤255):IntKind.u8.wrap m=m:=by grind[A3b,IntKind.min,IntKind.signed,IntKind.bits,IntKind.max]
theorem bN (b:UInt8):0≤(b.toNat:Int)∧(b.toNat:Int)≤255:=by simp[G0e]
theorem E0u (cp:Int):B4b cp=A2n cp:=by
 unfold B4b A2n
 grind
theorem D4b (p:List UInt8) (f:Int×Int) (fu:Nat) (low high:Int) (i:Nat) (a:0≤low∧low≤high) (b:high≤4194304):H2 p f (fu+1) low high i =
  if (i:Int)<f.1 then (if (i:Int)<(p.length:Int) then (if ((p.getD i 0).toNat:Int)<128∨(191:Int)<((p.getD i 0).toNat:Int) then (0,0,0) else H2 p f fu (low * 64+((p.getD i 0).toNat - 128)) (high * 64+((p.getD i 0).toNat - 128)) (i+1))
   else H2 p f fu (low * 64) (high * 64+63) (i+1)) else (if f.1<(p.length:Int) then (0,0,0) else (low,high,f.1)):=by
 have hb:=bN (p.getD i 0)
 rw [H2]
 rw [iw (m:=low * 64) opx opx,iw (m:=high * 64) opx opx,iw (m:=high * 64+63) opx opx,iw (m:=high * 64+63 - 63) opx opx]
 rw [iw (m:=low * 64+_) opx opx,iw (m:=high * 64+63 - 63+_) opx opx,Int.add_sub_cancel]
 grind
def G (low high a b:Int):Prop:=(if a > low then a else low)≤(if b<high then b else high)∧¬ (55296≤(if a > low then a else low)∧(if b<high then b else high)≤57343)
instance (a b c d:Int):Decidable (G a b c d):=by unfold G;exact inferInstance
theorem F7o {low high d e:Int} (h:O4 p=(low,high,n)) (i:n≠0) (g:([0,0,128,2048,65536]:List Int).getD n.toNat 0=d) (f:([0,127,2047,65535,1114111]:List Int).getD n.toNat 0=e) :
  U4 p=(decide (G low high d e),decide (G low high d e)&&decide ((p.length:Int)=n)):=by
 unfold U4
 simp only [B5,h,jX i,cond_false,g,f]
 have:((decide ((if d > low then d else low)≤(if e<high then e else high)))&&(!((decide ((55296:Int)≤(if d > low then d else low)))&&(decide ((if e<high then e else high)≤57343)))))=decide (G low high d e):=by
  rw [Bool.eq_iff_iff];simp[G]
 rw [this]
theorem F9a (h:(O4 p).2.2=0):U4 p=(false,false):=by
 simp_all[U4]
inductive KG (p:List UInt8):Prop
 | no (h:V8 p=0) (h':U4 p=(false,false))
 | front (h:V8 p=1) (h':U4 p=(true,false))
 | whole (h:V8 p=2) (h':U4 p=(true,true)) (hc:A2v p=(O4 p).1)
theorem A0t (b:UInt8) (cs:List UInt8):V8 (b::cs)=if L7 b<(cs.length:Int)+1 then 0 else A2l (b::cs) cs (A6n b).1 (A6n b).2 0:=by simp[V8]
theorem A2g (p:List UInt8) (c:UInt8) (cs:List UInt8) (low high:UInt8) (t:Nat):A2l p (c::cs) low high t=if (c.toNat:Int)<low.toNat∨(high.toNat:Int)<c.toNat then 0 else A2l p cs 128 191 (t+1):=by simp[A2l]
theorem B1a (p:List UInt8) (low high:UInt8) (t:Nat):A2l p [] low high t=if (p.length:Int)<L7 (p.getD 0 0) then 1 else 2:=by simp[A2l]
theorem C9i (b:UInt8) (cs:List UInt8) {v:Int} (h:J1 b=(n,v)):O4 (b::cs)=H2 (b::cs) (n,v) ((n - 1).toNat+1) v v 1:=by
 unfold O4;simp only [B5,List.getD_cons_zero,h,List.length_cons]
 rfl
theorem F3f (b:UInt8):((b.toNat:Int)<128∧L7 b=1∧J1 b=(1,(b.toNat:Int)))∨(128≤(b.toNat:Int)∧(b.toNat:Int)<192∧L7 b=0∧J1 b=(0,0)) ∨
  (192≤(b.toNat:Int)∧(b.toNat:Int)<194∧L7 b=0∧J1 b=(2,(b.toNat:Int) - 192))∨(194≤(b.toNat:Int)∧(b.toNat:Int)<224∧L7 b=2∧J1 b=(2,(b.toNat:Int) - 192)) ∨
  (224≤(b.toNat:Int)∧(b.toNat:Int)<240∧L7 b=3∧J1 b=(3,(b.toNat:Int) - 224))∨(240≤(b.toNat:Int)∧(b.toNat:Int)≤244∧L7 b=4∧J1 b=(4,(b.toNat:Int) - 240)) ∨
  (244<(b.toNat:Int)∧(b.toNat:Int)<248∧L7 b=0∧J1 b=(4,(b.toNat:Int) - 240))∨(248≤(b.toNat:Int)∧L7 b=0∧J1 b=(0,0)):=by
 have hb:=bN b
 have L:L7 b=if (240:Int)≤(b.toNat:Int)∧(b.toNat:Int)≤244 then 4 else if (224:Int)≤(b.toNat:Int)∧(b.toNat:Int)<240 then 3 else if (194:Int)≤(b.toNat:Int)∧(b.toNat:Int)<224 then 2 else if (b.toNat:Int)<128 then 1 else 0:=by
  simp[L7,Bool.cond_eq_ite]
 have F:J1 b=if (b.toNat:Int)<128 then (1,(b.toNat:Int)) else if (192:Int)≤(b.toNat:Int)∧(b.toNat:Int)<224 then (2,(b.toNat:Int) - 192) else if (224:Int)≤(b.toNat:Int)∧(b.toNat:Int)<240 then (3,(b.toNat:Int) - 224) else if (240:Int)≤(b.toNat:Int)∧(b.toNat:Int)<248 then (4,(b.toNat:Int) - 240) else (0,0):=by
  unfold J1;grind
 rw [L,F]
 generalize (b.toNat:Int)=x at *
 by_cases h1:x<128
 ·left;refine ⟨h1,?_,?_⟩<;>repeat (first|rw [if_neg opx]|rw [if_pos opx])
 ·by_cases h2:x<192
  ·right;left;refine ⟨by omega,h2,?_,?_⟩<;>repeat (first|rw [if_neg opx]|rw [if_pos opx])
  ·by_cases h3:x<194
   ·right;right;left;refine ⟨by omega,h3,?_,?_⟩<;>repeat (first|rw [if_neg opx]|rw [if_pos opx])
   ·by_cases h4:x<224
    ·right;right;right;left;refine ⟨by omega,h4,?_,?_⟩<;>repeat (first|rw [if_neg opx]|rw [if_pos opx])
    ·by_cases h5:x<240
     ·right;right;right;right;left;refine ⟨by omega,h5,?_,?_⟩<;>repeat (first|rw [if_neg opx]|rw [if_pos opx])
     ·by_cases h6:x≤244
      ·right;right;right;right;right;left;refine ⟨by omega,h6,?_,?_⟩<;>repeat (first|rw [if_neg opx]|rw [if_pos opx])
      ·by_cases h7:x<248
       ·right;right;right;right;right;right;left;refine ⟨by omega,h7,?_,?_⟩<;>repeat (first|rw [if_neg opx]|rw [if_pos opx])
       ·right;right;right;right;right;right;right;refine ⟨by omega,?_,?_⟩<;>repeat (first|rw [if_neg opx]|rw [if_pos opx])
theorem A5n (b:UInt8):((A6n b).1.toNat:Int)=(if (b.toNat:Int)=224 then 160 else if (b.toNat:Int)=240 then 144 else 128)∧((A6n b).2.toNat:Int)=(if (b.toNat:Int)=237 then 159 else if (b.toNat:Int)=244 then 143 else 191):=by
 unfold A6n
 simp only [Bool.cond_eq_ite,decide_eq_true_eq]
 generalize (b.toNat:Int)=x
 by_cases h1:x=224
 ·subst h1;decide
 ·by_cases h2:x=237
  ·subst h2;decide
  ·by_cases h3:x=240
   ·subst h3;decide
   ·by_cases h4:x=244
    ·subst h4;decide
    ·simp only [if_neg h1,if_neg h2,if_neg h3,if_neg h4];decide
theorem G3m:∀ n<256,192≤n→n<224→cH .and .i64 ((n:Nat):Int) 31=n - 192:=by decide +kernel
theorem G4w:∀ n<256,224≤n→n<240→cH .and .i64 ((n:Nat):Int) 15=n - 224:=by decide +kernel
theorem G5x:∀ n<256,240≤n→n<248→cH .and .i64 ((n:Nat):Int) 7=n - 240:=by decide +kernel
theorem G4q:∀ n<256,128≤n→n<192→((by8 (cH .and .u8 ((n:Nat):Int) 63)).toNat:Int)=n - 128:=by decide +kernel
theorem or6 {a y:Int} (b:0≤a∧a<67108864) (c:0≤y∧y<64):cH .or .i64 (IntKind.i64.wrap (a * 64)) y=a * 64+y:=by
 obtain ⟨A,rfl⟩:∃ A:Nat,a=A:=⟨a.toNat,by omega⟩
 obtain ⟨Y,rfl⟩:∃ Y:Nat,y=Y:=⟨y.toNat,by omega⟩
 rw [iw opx opx]
 show IntKind.i64.wrap (((BitVec.ofInt 64 ((A:Int) * 64) ||| BitVec.ofInt 64 (Y:Int)).toNat:Nat):Int)=_
 rw [show ((A:Int) * 64)=((A * 64:Nat):Int) by omega,BitVec.ofInt_natCast,BitVec.ofInt_natCast]
 rw [BitVec.toNat_or,BitVec.toNat_ofNat,BitVec.toNat_ofNat,Nat.mod_eq_of_lt opx,Nat.mod_eq_of_lt opx]
 have:=Nat.shiftLeft_add_eq_or_of_lt (show Y<2 ^ 6 by omega) A
 rw [Nat.shiftLeft_eq] at this
 rw [show A * 64=A * 2 ^ 6 from rfl,← this,iw opx opx];omega
theorem B6v (c:UInt8) (cs:List UInt8) (a:Int) (t:Nat) (b:0≤a∧a<67108864) (d:128≤(c.toNat:Int)∧(c.toNat:Int)≤191):A7o (c::cs) a t=A7o cs (a * 64+((c.toNat:Int) - 128)) (t+1):=by
 rw [A7o,G4q c.toNat c.toNat_lt opx opx,or6 b opx]
theorem G5k (b:UInt8) (h:(b.toNat:Int)<128):A2v [b]=(b.toNat:Int):=by
 unfold A2v
 rw [jX oom,cond_false]
 rfl
theorem G4f (b c:UInt8) (h:192≤(b.toNat:Int)∧(b.toNat:Int)<224) (a:128≤(c.toNat:Int)∧(c.toNat:Int)≤191):A2v [b,c]=((b.toNat:Int) - 192) * 64+((c.toNat:Int) - 128):=by
 unfold A2v
 rw [jQ oom,cond_true]
 unfold A9h
 rw [show Int.fdiv (255:Int) (2 ^ (min (((([b,c]:List UInt8).length:Int)+1)).toNat 64))=31 by rw [show (([b,c]:List UInt8).length:Int)=2 from rfl];decide,show ([b,c]:List UInt8).getD 0 0=b from rfl,G3m b.toNat b.toNat_lt opx opx]
 exact B6v c [] _ _ opx a
theorem G5h (b c d:UInt8) (h:224≤(b.toNat:Int)∧(b.toNat:Int)<240) (e:128≤(c.toNat:Int)∧(c.toNat:Int)≤191) (a:128≤(d.toNat:Int)∧(d.toNat:Int)≤191):A2v [b,c,d]=(((b.toNat:Int) - 224) * 64+((c.toNat:Int) - 128)) * 64+((d.toNat:Int) - 128):=by
 unfold A2v
 rw [jQ oom,cond_true]
 unfold A9h
 rw [show Int.fdiv (255:Int) (2 ^ (min (((([b,c,d]:List UInt8).length:Int)+1)).toNat 64))=15 by rw [show (([b,c,d]:List UInt8).length:Int)=3 from rfl];decide,show ([b,c,d]:List UInt8).getD 0 0=b from rfl,G4w b.toNat b.toNat_lt opx opx]
 exact (B6v c [d] _ _ opx e).trans (B6v d [] _ _ opx a)
theorem G3o (b c d e:UInt8) (h:240≤(b.toNat:Int)∧(b.toNat:Int)<248) (f:128≤(c.toNat:Int)∧(c.toNat:Int)≤191) (a:128≤(d.toNat:Int)∧(d.toNat:Int)≤191) (g:128≤(e.toNat:Int)∧(e.toNat:Int)≤191):A2v [b,c,d,e]=((((b.toNat:Int) - 240) * 64+((c.toNat:Int) - 128)) * 64+((d.toNat:Int) - 128)) * 64+((e.toNat:Int) - 128):=by
 unfold A2v
 rw [jQ oom,cond_true]
 unfold A9h
 rw [show Int.fdiv (255:Int) (2 ^ (min (((([b,c,d,e]:List UInt8).length:Int)+1)).toNat 64))=7 by rw [show (([b,c,d,e]:List UInt8).length:Int)=4 from rfl];decide,show ([b,c,d,e]:List UInt8).getD 0 0=b from rfl,G5x b.toNat b.toNat_lt opx opx]
 exact (B6v c [d,e] _ _ opx f).trans ((B6v d [e] _ _ opx a).trans (B6v e [] _ _ opx g))
end
end Go.Proofs.YtmldjljkeigpnaaGreatDoor
set_option maxHeartbeats 2000000
namespace Go.Proofs.YtmldjljkeigpnaaGreatDoor
open Go Go.Fen
variable {c:UInt8} {cs:List UInt8} {fu:Nat} {high:Int} {i:Nat} {low n:Int} {p:List UInt8} {v:Int}
theorem C2s (e f:Int) (h:O4 p=(low,high,n)) (l:n≠0) (k:([0,0,128,2048,65536]:List Int).getD n.toNat 0=e) (j:([0,127,2047,65535,1114111]:List Int).getD n.toNat 0=f)
  (i:(G low high e f∧(p.length:Int)=n∧V8 p=2∧A2v p=low)∨(G low high e f∧(p.length:Int)≠n∧V8 p=1)∨(¬ G low high e f∧V8 p=0)):KG p:=by
 have g:=F7o h l k j
 rcases i with ⟨a,b,c,d⟩ | ⟨a,b,c⟩ | ⟨a,c⟩
 ·exact .whole c (by grind) (by rw [d,h])
 ·exact .front c (by grind)
 ·exact .no c (by grind)
theorem A7e (h:O4 p=(0,0,0)) (a:V8 p=0):KG p:=.no a (F9a (by rw [h]))
def Bd8 (c:UInt8):Prop:=(c.toNat:Int)<128∨(191:Int)<(c.toNat:Int)
theorem Bd8.not (h:¬ Bd8 c):128≤(c.toNat:Int)∧(c.toNat:Int)≤191:=by grind[Bd8]
theorem A7q (a:¬ Bd8 (p.getD i 0)) (d:0≤low∧low≤high∧high≤4194304) (c:(i:Int)<n) (b:(i:Int)<p.length) :
  H2 p (n,v) (fu+1) low high i=H2 p (n,v) fu (low * 64+((p.getD i 0).toNat - 128)) (high * 64+((p.getD i 0).toNat - 128)) (i+1):=by
 unfold Bd8 at a;rw [D4b _ _ _ _ _ _ opx opx,if_pos c,if_pos b,if_neg a]
theorem A9m (a:Bd8 (p.getD i 0)) (d:0≤low∧low≤high∧high≤4194304) (c:(i:Int)<n) (b:(i:Int)<p.length) :
  H2 p (n,v) (fu+1) low high i=(0,0,0):=by
 unfold Bd8 at a;rw [D4b _ _ _ _ _ _ opx opx,if_pos c,if_pos b,if_pos a]
theorem B8l (c:0≤low∧low≤high∧high≤4194304) (b:(i:Int)<n) (a:¬ (i:Int)<p.length) :
  H2 p (n,v) (fu+1) low high i=H2 p (n,v) fu (low * 64) (high * 64+63) (i+1):=by
 simp_all[D4b,if_neg]
theorem A9t (b:0≤low∧low≤high∧high≤4194304) (a:¬ (i:Int)<n) :
  H2 p (n,v) (fu+1) low high i=if n<(p.length:Int) then (0,0,0) else (low,high,n):=by
 simp_all[D4b,if_neg]
theorem A5m (b:UInt8):128≤((A6n b).1.toNat:Int)∧((A6n b).2.toNat:Int)≤191:=by grind[A5n]
theorem E5q (b:UInt8) (cs:List UInt8) (h:J1 b=(1,v)):O4 (b::cs)=H2 (b::cs) (1,v) (0+1) v v 1:=C9i b cs h
theorem C0t (b:UInt8) (cs:List UInt8) (h:J1 b=(2,v)):O4 (b::cs)=H2 (b::cs) (2,v) (0+1+1) v v 1:=C9i b cs h
theorem B3j (b:UInt8) (cs:List UInt8) (h:J1 b=(3,v)):O4 (b::cs)=H2 (b::cs) (3,v) (0+1+1+1) v v 1:=C9i b cs h
theorem A4w (b:UInt8) (cs:List UInt8) (h:J1 b=(4,v)):O4 (b::cs)=H2 (b::cs) (4,v) (0+1+1+1+1) v v 1:=C9i b cs h
theorem B8j {b:UInt8} (h:L7 b<(cs.length:Int)+1):V8 (b::cs)=0:=by simp_all[A0t]
theorem B9y {low high:UInt8} {t:Nat} (a:128≤(low.toNat:Int)) (b:(high.toNat:Int)≤191) (h:Bd8 c):A2l p (c::cs) low high t=0:=by rw [A2g,if_pos (by grind[Bd8])]
theorem ook {p:Prop} (h:p:=by (try simp only [List.getD_cons_succ,List.getD_cons_zero]);omega):p:=h
theorem kg1 (b:UInt8) (h:0≤(b.toNat:Int)) (g:(b.toNat:Int)<128) (hL:L7 b=1) (d:J1 b=(1,(b.toNat:Int))):∀ cs:List UInt8,KG (b::cs)
 | []=>by
  have a:=A5n b
  refine C2s 0 127 ((E5q b _ d).trans <| (A9t (p:=b::[]) (i:=1) ook ozw).trans (if_neg oqd)) ozw Z Z ?_
  have j:=G5k b  opx
  rw [A0t,hL,if_neg oqd]
  rw [B1a];simp only [List.getD_cons_zero,List.getD_cons_succ,hL,List.length_cons,List.length_nil,show ((128:UInt8).toNat:Int)=128 from rfl,show ((191:UInt8).toNat:Int)=191 from rfl,a.1,a.2];unfold G
  clear a hL d
  generalize (b.toNat:Int)=f at *
  repeat' split
  all_goals omega
 | c::r=>by
  have e:V8 (b::c::r)=0:=B8j (by rw [hL];simp only [List.length_cons];omega)
  exact A7e ((E5q b _ d).trans <| (A9t (p:=b::c::r) (i:=1) ook ozw).trans (if_pos oqd)) e
theorem kg2 (b:UInt8) (k:194≤(b.toNat:Int)) (j:(b.toNat:Int)<224) (hL:L7 b=2) (e:J1 b=(2,(b.toNat:Int) - 192)):∀ cs:List UInt8,KG (b::cs)
 | []=>by
  have a:=A5n b
  refine C2s 128 2047 ((C0t b _ e).trans <| (B8l (p:=b::[]) (i:=1) ook ozw oqd).trans <| (A9t (p:=b::[]) (i:=2) ook ozw).trans (if_neg oqd)) ozw Z Z ?_
  rw [A0t,hL,if_neg oqd]
  rw [B1a];simp only [List.getD_cons_zero,List.getD_cons_succ,hL,List.length_cons,List.length_nil,show ((128:UInt8).toNat:Int)=128 from rfl,show ((191:UInt8).toNat:Int)=191 from rfl,a.1,a.2];unfold G
  clear a hL e
  generalize (b.toNat:Int)=h at *
  repeat' split
  all_goals omega
 | [c]=>by
  have a:=A5n b
  have:=bN c
  by_cases g0:Bd8 c
  ·refine A7e ((C0t b _ e).trans <| A9m (p:=b::[c]) (i:=1) g0 ook ozw oqd) ?_
   rw [A0t,hL,if_neg oqd]
   exact B9y (A5m b).1 (A5m b).2 g0
  have g:=Bd8.not g0
  refine C2s 128 2047 ((C0t b _ e).trans <| (A7q (p:=b::[c]) (i:=1) g0 ook ozw oqd).trans <| (A9t (p:=b::[c]) (i:=2) ook ozw).trans (if_neg oqd)) ozw Z Z ?_
  have l:=G4f b c opx g
  rw [A0t,hL,if_neg oqd]
  rw [A2g]
  rw [B1a];simp only [List.getD_cons_zero,List.getD_cons_succ,hL,List.length_cons,List.length_nil,show ((128:UInt8).toNat:Int)=128 from rfl,show ((191:UInt8).toNat:Int)=191 from rfl,a.1,a.2];unfold G
  clear a hL e
  generalize (b.toNat:Int)=h at *
  generalize (c.toNat:Int)=m at *
  repeat' split
  all_goals omega
 | c::d::r=>by
  have f:V8 (b::c::d::r)=0:=B8j (by rw [hL];simp only [List.length_cons];omega)
  have:=bN c
  by_cases g0:Bd8 c
  ·exact A7e ((C0t b _ e).trans <| A9m (p:=b::c::d::r) (i:=1) g0 ook ozw oqd) f
  have g:=Bd8.not g0
  exact A7e ((C0t b _ e).trans <| (A7q (p:=b::c::d::r) (i:=1) g0 ook ozw oqd).trans <| (A9t (p:=b::c::d::r) (i:=2) ook ozw).trans (if_pos oqd)) f
theorem kg3 (b:UInt8) (n:224≤(b.toNat:Int)) (m:(b.toNat:Int)<240) (hL:L7 b=3) (a:J1 b=(3,(b.toNat:Int) - 224)):∀ cs:List UInt8,KG (b::cs)
 | []=>by
  have f:=A5n b
  refine C2s 2048 65535 ((B3j b _ a).trans <| (B8l (p:=b::[]) (i:=1) ook ozw oqd).trans <| (B8l (p:=b::[]) (i:=2) ook ozw oqd).trans <| (A9t (p:=b::[]) (i:=3) ook ozw).trans (if_neg oqd)) ozw Z Z ?_
  rw [A0t,hL,if_neg oqd]
  rw [B1a];simp only [List.getD_cons_zero,List.getD_cons_succ,hL,List.length_cons,List.length_nil,show ((128:UInt8).toNat:Int)=128 from rfl,show ((191:UInt8).toNat:Int)=191 from rfl,f.1,f.2];unfold G
  clear f hL a
  generalize (b.toNat:Int)=j at *
  repeat' split
  all_goals omega
 | [c]=>by
  have f:=A5n b
  have:=bN c
  by_cases g0:Bd8 c
  ·refine A7e ((B3j b _ a).trans <| A9m (p:=b::[c]) (i:=1) g0 ook ozw oqd) ?_
   rw [A0t,hL,if_neg oqd]
   exact B9y (A5m b).1 (A5m b).2 g0
  have h:=Bd8.not g0
  refine C2s 2048 65535 ((B3j b _ a).trans <| (A7q (p:=b::[c]) (i:=1) g0 ook ozw oqd).trans <| (B8l (p:=b::[c]) (i:=2) ook ozw oqd).trans <| (A9t (p:=b::[c]) (i:=3) ook ozw).trans (if_neg oqd)) ozw Z Z ?_
  rw [A0t,hL,if_neg oqd]
  rw [A2g]
  rw [B1a];simp only [List.getD_cons_zero,List.getD_cons_succ,hL,List.length_cons,List.length_nil,show ((128:UInt8).toNat:Int)=128 from rfl,show ((191:UInt8).toNat:Int)=191 from rfl,f.1,f.2];unfold G
  clear f hL a
  generalize (b.toNat:Int)=j at *
  generalize (c.toNat:Int)=l at *
  repeat' split
  all_goals omega
 | [c,d]=>by
  have f:=A5n b
  have:=bN c
  have:=bN d
  by_cases g0:Bd8 c
  ·refine A7e ((B3j b _ a).trans <| A9m (p:=b::[c,d]) (i:=1) g0 ook ozw oqd) ?_
   rw [A0t,hL,if_neg oqd]
   exact B9y (A5m b).1 (A5m b).2 g0
  have h:=Bd8.not g0
  by_cases g1:Bd8 d
  ·refine A7e ((B3j b _ a).trans <| (A7q (p:=b::[c,d]) (i:=1) g0 ook ozw oqd).trans <| A9m (p:=b::[c,d]) (i:=2) g1 ook ozw oqd) ?_
   rw [A0t,hL,if_neg oqd]
   rw [A2g];split
   ·rfl
   ·exact B9y ozw ozw g1
  have k:=Bd8.not g1
  refine C2s 2048 65535 ((B3j b _ a).trans <| (A7q (p:=b::[c,d]) (i:=1) g0 ook ozw oqd).trans <| (A7q (p:=b::[c,d]) (i:=2) g1 ook ozw oqd).trans <| (A9t (p:=b::[c,d]) (i:=3) ook ozw).trans (if_neg oqd)) ozw Z Z ?_
  have q:=G5h b c d opx h k
  rw [A0t,hL,if_neg oqd]
  rw [A2g]
  rw [A2g]
  rw [B1a];simp only [List.getD_cons_zero,List.getD_cons_succ,hL,List.length_cons,List.length_nil,show ((128:UInt8).toNat:Int)=128 from rfl,show ((191:UInt8).toNat:Int)=191 from rfl,f.1,f.2];unfold G
  clear f hL a
  generalize (b.toNat:Int)=j at *
  generalize (c.toNat:Int)=l at *
  generalize (d.toNat:Int)=o at *
  repeat' split
  all_goals omega
 | c::d::e::r=>by
  have g:V8 (b::c::d::e::r)=0:=B8j (by rw [hL];simp only [List.length_cons];omega)
  have:=bN c
  have:=bN d
  by_cases g0:Bd8 c
  ·exact A7e ((B3j b _ a).trans <| A9m (p:=b::c::d::e::r) (i:=1) g0 ook ozw oqd) g
  have h:=Bd8.not g0
  by_cases g1:Bd8 d
  ·exact A7e ((B3j b _ a).trans <| (A7q (p:=b::c::d::e::r) (i:=1) g0 ook ozw oqd).trans <| A9m (p:=b::c::d::e::r) (i:=2) g1 ook ozw oqd) g
  have k:=Bd8.not g1
  exact A7e ((B3j b _ a).trans <| (A7q (p:=b::c::d::e::r) (i:=1) g0 ook ozw oqd).trans <| (A7q (p:=b::c::d::e::r) (i:=2) g1 ook ozw oqd).trans <| (A9t (p:=b::c::d::e::r) (i:=3) ook ozw).trans (if_pos oqd)) g
theorem kg4 (b:UInt8) (t:240≤(b.toNat:Int)) (s:(b.toNat:Int)<245) (hL:L7 b=4) (a:J1 b=(4,(b.toNat:Int) - 240)):∀ cs:List UInt8,KG (b::cs)
 | []=>by
  have g:=A5n b
  refine C2s 65536 1114111 ((A4w b _ a).trans <| (B8l (p:=b::[]) (i:=1) ook ozw oqd).trans <| (B8l (p:=b::[]) (i:=2) ook ozw oqd).trans <| (B8l (p:=b::[]) (i:=3) ook ozw oqd).trans <| (A9t (p:=b::[]) (i:=4) ook ozw).trans (if_neg oqd)) ozw Z Z ?_
  rw [A0t,hL,if_neg oqd]
  rw [B1a];simp only [List.getD_cons_zero,List.getD_cons_succ,hL,List.length_cons,List.length_nil,show ((128:UInt8).toNat:Int)=128 from rfl,show ((191:UInt8).toNat:Int)=191 from rfl,g.1,g.2];unfold G
  clear g hL a
  generalize (b.toNat:Int)=k at *
  repeat' split
  all_goals omega
 | [c]=>by
  have g:=A5n b
  have:=bN c
  by_cases g0:Bd8 c
  ·refine A7e ((A4w b _ a).trans <| A9m (p:=b::[c]) (i:=1) g0 ook ozw oqd) ?_
   rw [A0t,hL,if_neg oqd]
   exact B9y (A5m b).1 (A5m b).2 g0
  have j:=Bd8.not g0
  refine C2s 65536 1114111 ((A4w b _ a).trans <| (A7q (p:=b::[c]) (i:=1) g0 ook ozw oqd).trans <| (B8l (p:=b::[c]) (i:=2) ook ozw oqd).trans <| (B8l (p:=b::[c]) (i:=3) ook ozw oqd).trans <| (A9t (p:=b::[c]) (i:=4) ook ozw).trans (if_neg oqd)) ozw Z Z ?_
  rw [A0t,hL,if_neg oqd]
  rw [A2g]
  rw [B1a];simp only [List.getD_cons_zero,List.getD_cons_succ,hL,List.length_cons,List.length_nil,show ((128:UInt8).toNat:Int)=128 from rfl,show ((191:UInt8).toNat:Int)=191 from rfl,g.1,g.2];unfold G
  clear g hL a
  generalize (b.toNat:Int)=k at *
  generalize (c.toNat:Int)=n at *
  repeat' split
  all_goals omega
 | [c,d]=>by
  have g:=A5n b
  have:=bN c
  have:=bN d
  by_cases g0:Bd8 c
  ·refine A7e ((A4w b _ a).trans <| A9m (p:=b::[c,d]) (i:=1) g0 ook ozw oqd) ?_
   rw [A0t,hL,if_neg oqd]
   exact B9y (A5m b).1 (A5m b).2 g0
  have j:=Bd8.not g0
  by_cases g1:Bd8 d
  ·refine A7e ((A4w b _ a).trans <| (A7q (p:=b::[c,d]) (i:=1) g0 ook ozw oqd).trans <| A9m (p:=b::[c,d]) (i:=2) g1 ook ozw oqd) ?_
   rw [A0t,hL,if_neg oqd]
   rw [A2g];split
   ·rfl
   ·exact B9y ozw ozw g1
  have l:=Bd8.not g1
  refine C2s 65536 1114111 ((A4w b _ a).trans <| (A7q (p:=b::[c,d]) (i:=1) g0 ook ozw oqd).trans <| (A7q (p:=b::[c,d]) (i:=2) g1 ook ozw oqd).trans <| (B8l (p:=b::[c,d]) (i:=3) ook ozw oqd).trans <| (A9t (p:=b::[c,d]) (i:=4) ook ozw).trans (if_neg oqd)) ozw Z Z ?_
  rw [A0t,hL,if_neg oqd]
  rw [A2g]
  rw [A2g]
  rw [B1a];simp only [List.getD_cons_zero,List.getD_cons_succ,hL,List.length_cons,List.length_nil,show ((128:UInt8).toNat:Int)=128 from rfl,show ((191:UInt8).toNat:Int)=191 from rfl,g.1,g.2];unfold G
  clear g hL a
  generalize (b.toNat:Int)=k at *
  generalize (c.toNat:Int)=n at *
  generalize (d.toNat:Int)=o at *
  repeat' split
  all_goals omega
 | [c,d,e]=>by
  have g:=A5n b
  have:=bN c
  have:=bN d
  have:=bN e
  by_cases g0:Bd8 c
  ·refine A7e ((A4w b _ a).trans <| A9m (p:=b::[c,d,e]) (i:=1) g0 ook ozw oqd) ?_
   rw [A0t,hL,if_neg oqd]
   exact B9y (A5m b).1 (A5m b).2 g0
  have j:=Bd8.not g0
  by_cases g1:Bd8 d
  ·refine A7e ((A4w b _ a).trans <| (A7q (p:=b::[c,d,e]) (i:=1) g0 ook ozw oqd).trans <| A9m (p:=b::[c,d,e]) (i:=2) g1 ook ozw oqd) ?_
   rw [A0t,hL,if_neg oqd]
   rw [A2g];split
   ·rfl
   ·exact B9y ozw ozw g1
  have l:=Bd8.not g1
  by_cases g2:Bd8 e
  ·refine A7e ((A4w b _ a).trans <| (A7q (p:=b::[c,d,e]) (i:=1) g0 ook ozw oqd).trans <| (A7q (p:=b::[c,d,e]) (i:=2) g1 ook ozw oqd).trans <| A9m (p:=b::[c,d,e]) (i:=3) g2 ook ozw oqd) ?_
   rw [A0t,hL,if_neg oqd]
   rw [A2g];split
   ·rfl
   ·skip
    rw [A2g];split
    ·rfl
    ·exact B9y ozw ozw g2
  have m:=Bd8.not g2
  refine C2s 65536 1114111 ((A4w b _ a).trans <| (A7q (p:=b::[c,d,e]) (i:=1) g0 ook ozw oqd).trans <| (A7q (p:=b::[c,d,e]) (i:=2) g1 ook ozw oqd).trans <| (A7q (p:=b::[c,d,e]) (i:=3) g2 ook ozw oqd).trans <| (A9t (p:=b::[c,d,e]) (i:=4) ook ozw).trans (if_neg oqd)) ozw Z Z ?_
  have u:=G3o b c d e opx j l m
  rw [A0t,hL,if_neg oqd]
  rw [A2g]
  rw [A2g]
  rw [A2g]
  rw [B1a];simp only [List.getD_cons_zero,List.getD_cons_succ,hL,List.length_cons,List.length_nil,show ((128:UInt8).toNat:Int)=128 from rfl,show ((191:UInt8).toNat:Int)=191 from rfl,g.1,g.2];unfold G
  clear g hL a
  generalize (b.toNat:Int)=k at *
  generalize (c.toNat:Int)=n at *
  generalize (d.toNat:Int)=o at *
  generalize (e.toNat:Int)=q at *
  repeat' split
  all_goals omega
 | c::d::e::f::r=>by
  have h:V8 (b::c::d::e::f::r)=0:=B8j (by rw [hL];simp only [List.length_cons];omega)
  have:=bN c
  have:=bN d
  have:=bN e
  by_cases g0:Bd8 c
  ·exact A7e ((A4w b _ a).trans <| A9m (p:=b::c::d::e::f::r) (i:=1) g0 ook ozw oqd) h
  have j:=Bd8.not g0
  by_cases g1:Bd8 d
  ·exact A7e ((A4w b _ a).trans <| (A7q (p:=b::c::d::e::f::r) (i:=1) g0 ook ozw oqd).trans <| A9m (p:=b::c::d::e::f::r) (i:=2) g1 ook ozw oqd) h
  have l:=Bd8.not g1
  by_cases g2:Bd8 e
  ·exact A7e ((A4w b _ a).trans <| (A7q (p:=b::c::d::e::f::r) (i:=1) g0 ook ozw oqd).trans <| (A7q (p:=b::c::d::e::f::r) (i:=2) g1 ook ozw oqd).trans <| A9m (p:=b::c::d::e::f::r) (i:=3) g2 ook ozw oqd) h
  have m:=Bd8.not g2
  exact A7e ((A4w b _ a).trans <| (A7q (p:=b::c::d::e::f::r) (i:=1) g0 ook ozw oqd).trans <| (A7q (p:=b::c::d::e::f::r) (i:=2) g1 ook ozw oqd).trans <| (A7q (p:=b::c::d::e::f::r) (i:=3) g2 ook ozw oqd).trans <| (A9t (p:=b::c::d::e::f::r) (i:=4) ook ozw).trans (if_pos oqd)) h
end Go.Proofs.YtmldjljkeigpnaaGreatDoor
namespace Go.Proofs.YtmldjljkeigpnaaGreatDoor
open Go Go.Fen
section
variable {m:Int}
theorem E4o {p:List UInt8} {n v:Int} {fu:Nat} {low high:Int} {i:Nat} (b:0≤low∧low≤high∧high≤4194303) (a:(i:Int)<n) :
  H2 p (n,v) (fu+1) low high i=(0,0,0)∨∃ l h,H2 p (n,v) (fu+1) low high i=H2 p (n,v) fu l h (i+1)∧low * 64≤l∧l≤h∧h≤high * 64+63:=by
 by_cases h2:(i:Int)<p.length
 ·by_cases h3:Bd8 (p.getD i 0)
  ·exact Or.inl (A9m h3 opx a h2)
  ·have:=Bd8.not h3
   exact Or.inr ⟨_,_,A7q h3 opx a h2,by omega,by omega,by omega⟩
 ·exact Or.inr ⟨_,_,B8l opx a h2,by omega,by omega,by omega⟩
theorem F0b (b:UInt8) (hL:L7 b=0) (a:J1 b=(0,0)) (cs:List UInt8):KG (b::cs) :=
 A7e ((C9i b cs a).trans ((A9t opx ozw).trans (if_pos (by simp)))) (B8j (by omega))
theorem G1h (b:UInt8) (k:192≤(b.toNat:Int)) (j:(b.toNat:Int)<194) (hL:L7 b=0) (g:J1 b=(2,(b.toNat:Int) - 192)) (cs:List UInt8):KG (b::cs):=by
 have d:V8 (b::cs)=0:=B8j (by omega)
 have e:=C0t b cs g
 rcases E4o (p:=b::cs) (n:=2) (v:=(b.toNat:Int) - 192) (fu:=1) (low:=(b.toNat:Int) - 192) (high:=(b.toNat:Int) - 192) (i:=1) opx ozw with h | ⟨l,h,e1,h3,h4,h5⟩
 ·grind[A7e]
 ·have a:=e.trans e1
  rw [A9t opx ozw] at a
  by_cases c:(2:Int)<((b::cs).length:Int)
  ·simp_all[A7e]
  ·rw [if_neg c] at a
   have f:¬ G l h 128 2047:=by
    grind[G]
   exact C2s 128 2047 a ozw Z Z (Or.inr (Or.inr ⟨f,d⟩))
theorem F8w (b:UInt8) (k:244<(b.toNat:Int)) (j:(b.toNat:Int)<248) (hL:L7 b=0) (g:J1 b=(4,(b.toNat:Int) - 240)) (cs:List UInt8):KG (b::cs):=by
 have a:V8 (b::cs)=0:=B8j (by omega)
 have e:=A4w b cs g
 rcases E4o (p:=b::cs) (n:=4) (v:=(b.toNat:Int) - 240) (fu:=3) (low:=(b.toNat:Int) - 240) (high:=(b.toNat:Int) - 240) (i:=1) opx ozw with h | ⟨l,h,e1,h3,h4,h5⟩
 ·grind[A7e]
 ·have e:=e.trans e1
  rcases E4o (p:=b::cs) (n:=4) (v:=(b.toNat:Int) - 240) (fu:=2) (low:=l) (high:=h) (i:=2) opx ozw with h | ⟨l',h',e1,h3',h4',h5'⟩
  ·grind[A7e]
  ·have e:=e.trans e1
   rcases E4o (p:=b::cs) (n:=4) (v:=(b.toNat:Int) - 240) (fu:=1) (low:=l') (high:=h') (i:=3) opx ozw with h | ⟨l2,h2',e1,h32,h42,h52⟩
   ·grind[A7e]
   ·have d:=e.trans e1
    rw [A9t opx ozw] at d
    by_cases c:(4:Int)<((b::cs).length:Int)
    ·simp_all[A7e]
    ·rw [if_neg c] at d
     have f:¬ G l2 h2' 65536 1114111:=by
      grind[G]
     exact C2s 65536 1114111 d ozw Z Z (Or.inr (Or.inr ⟨f,a⟩))
theorem E8y:∀ p:List UInt8,p≠[]→KG p
 | [],h=>absurd Z h
 | b::cs,_=>by
  rcases F3f b with ⟨d,a,c⟩ | ⟨d,e,a,c⟩ | ⟨d,e,a,c⟩ | ⟨d,e,a,c⟩ | ⟨d,e,a,c⟩ | ⟨d,e,a,c⟩ | ⟨d,e,a,c⟩ | ⟨d,a,c⟩
  ·simp_all[kg1]
  ·grind[F0b]
  ·grind[G1h]
  ·grind[kg2]
  ·grind[kg3]
  ·exact kg4 b d opx a c cs
  all_goals grind[F8w,F0b]
theorem E5p (p:List UInt8):A5o p=A2z p:=by
 unfold A5o A2z
 cases p with
 | nil=>rfl
 | cons b cs =>
  simp only [B5]
  rcases E8y (b::cs) oom with ⟨h,h'⟩ | ⟨h,h'⟩ | ⟨h,h',_⟩<;>rw [h,h']<;>rfl
theorem F5i (b:UInt8):A8u b=A9y b:=by
 have c:A4h b=A2y b:=by
  unfold A4h A2y
  simp only [B5,List.nil_append]
  rcases E8y [b] oom with ⟨h,a⟩ | ⟨h,a⟩ | ⟨h,a,d⟩
  all_goals grind
 simp_all[A8u,A9y]
theorem F9b (p:List UInt8) (b:UInt8):N1 p b=A4l p b:=by
 have c:∀ q,A5s b q=A2f b q:=fun q=>by
  unfold A5s A2f
  simp only [B5,List.nil_append]
  rcases E8y (q++[b]) oom with ⟨h,a⟩ | ⟨h,a⟩ | ⟨h,a,d⟩
  all_goals grind[F5i]
 grind[N1,A4l,E5p]
theorem G0h (c0 p:List UInt8) (t:Nat) (ag:List UInt8→Nat→List Int):∀ (l:List Int) (k:Nat),A0r c0 p t ag l k=l++ag (N1 p (c0.getD t 0)).1 (t+1)
 | [],k=>by rfl
 | x::l,k=>by simp only [A0r,G0h c0 p t ag l,List.cons_append]
theorem E6l (c0:List UInt8):∀ (s out:List UInt8) (l:List Int) (t i:Nat),s=c0.drop t→Z3 s l out i=l++Z7 c0 s out t
 | [],p,l,t,i,_=>by
  simp[Z3,Z7,B1z,E5p]
 | x::s,p,l,t,i,h=>by
  have a:t<c0.length:=by
   by_cases hh:t<c0.length
   all_goals simp_all[List.drop_eq_nil_of_le]
  have c:c0.getD t 0=x:=by
   grind[List.drop_eq_getElem_cons]
  have b:s=c0.drop (t+1):=by grind[List.drop_eq_getElem_cons]
  simp only [Z3,Z7,B5,G0h]
  rw [E6l c0 s _ _ (t+1) (i+1) b,c,F9b,List.append_assoc]
theorem F6m (s:List UInt8):B3y s=A7l s:=by
 unfold B3y A7l
 rw [B6b,E6l s s [] [] 0 0 oom];rfl
theorem E8v (h:0≤m∧m≤255):((by8 m).toNat:Int)=m:=E0d h
theorem uwm (m:Int):IntKind.u8.wrap m=m % 256:=by rfl
theorem G3w:∀ n<256,by8 (cH .or .u8 128 ((by8 (cH .and .u8 ((n:Nat):Int) 63)).toNat:Int))=by8 (128+n % 64):=by decide +kernel
theorem G3p:∀ n<32,by8 (cH .or .u8 192 ((n:Nat):Int))=by8 (192+n):=by decide +kernel
theorem G4r:∀ n<16,by8 (cH .or .u8 224 ((n:Nat):Int))=by8 (224+n):=by decide +kernel
theorem G3s:∀ n<8,by8 (cH .or .u8 240 ((n:Nat):Int))=by8 (240+n):=by decide +kernel
theorem oow {p:Prop} (h:p:=by rw [uwm];omega):p:=h
theorem G6j (q:Int):by8 (cH .or .u8 128 ((by8 (cH .and .u8 ((by8 (IntKind.u8.wrap q)).toNat:Int) 63)).toNat:Int))=by8 (128+q % 64):=by
 have:=G3w (by8 (IntKind.u8.wrap q)).toNat (by8 (IntKind.u8.wrap q)).toNat_lt
 rw [this,E8v oow,uwm];simp
theorem F2b (s:Nat) (cp:Int) (d:Int) (a:(2:Int) ^ (min ((s:Int)).toNat 64)=d) (b:0<d):O0 s cp=by8 (128+(cp / d) % 64):=by
 unfold O0
 rw [G6j,a,Int.fdiv_eq_ediv_of_nonneg _ opx]
theorem F6w (h:0≤m):by8 (IntKind.u8.wrap (128+Int.tmod m 64))=by8 (128+m % 64):=by
 rw [Int.tmod_eq_emod_of_nonneg h,uw opx opx]
theorem F8j (h:0≤m∧m≤1114111):IntKind.i64.wrap (Int.tdiv m 64)=m / 64:=by
 rw [Int.tdiv_eq_ediv_of_nonneg h.1,iw opx opx]
theorem B6w (c:Int) (fu:Nat) (x:Int) (b:List UInt8) (i:Int) (d:0<i) (a:0≤x∧x≤1114111):X1 c (fu+1) x b i=X1 c fu (x / 64) (b.set i.toNat (by8 (128+x % 64))) (i - 1):=by simp_all[X1,F6w,F8j]
theorem D7o (c:Int) (fu:Nat) (x:Int) (b:List UInt8):X1 c (fu+1) x b 0=b.set 0 (by8 (IntKind.u8.wrap ((([0,0,192,224,240]:List Int).getD ((H3 c).toNat) 0)+x))):=by rfl
theorem F3p (cp:Int) (h:0≤cp∧cp≤1114111):B1o cp=A5y cp:=by
 unfold B1o A5y
 by_cases h1:cp<128
 ·grind[H3]
 ·rw [jX h1,cond_false]
  by_cases h2:cp<2048
  ·have a:H3 cp=2:=by grind[H3]
   rw [jQ h2,cond_true,a]
   have e:X1 cp (((2:Int) - 1 - 0).toNat+1) cp (List.replicate (2:Int).toNat (0:UInt8)) (2 - 1)=[by8 (192+cp / 64),by8 (128+cp % 64)]:=by
    refine (B6w cp 1 cp [0,0] 1 ozw h).trans ((D7o ..).trans ?_)
    rw [a];rw [show ([0,0,192,224,240]:List Int).getD (2:Int).toNat 0=192 from rfl,uw opx opx];rfl
   rw [show decide ((2:Int)=1)=false from rfl,cond_false,e,F2b 0 cp 1 rfl ozw]
   have:=G3p (by8 (IntKind.u8.wrap (cp / 64))).toNat (by have:=E8v (m:=IntKind.u8.wrap (cp / 64)) oow;grind[uwm])
   rw [this,E8v oow,uwm,show cp / 64 % 256=cp / 64 by omega,Int.ediv_one]
  ·rw [jX h2,cond_false]
   by_cases h3:cp<65536
   ·have a:H3 cp=3:=by grind[H3]
    rw [jQ h3,cond_true,a]
    have e:X1 cp (((3:Int) - 1 - 0).toNat+1) cp (List.replicate (3:Int).toNat (0:UInt8)) (3 - 1)=[by8 (224+cp / 64 / 64),by8 (128+cp / 64 % 64),by8 (128+cp % 64)]:=by
     refine (B6w cp 2 cp [0,0,0] 2 ozw h).trans ((B6w cp 1 _ _ 1 ozw opx).trans ((D7o ..).trans ?_))
     rw [a];rw [show ([0,0,192,224,240]:List Int).getD (3:Int).toNat 0=224 from rfl,uw opx opx];rfl
    rw [show decide ((3:Int)=1)=false from rfl,cond_false,e,F2b 0 cp 1 rfl ozw,F2b 6 cp 64 rfl ozw]
    have:=G4r (by8 (IntKind.u8.wrap (cp / 4096))).toNat (by have:=E8v (m:=IntKind.u8.wrap (cp / 4096)) oow;grind[uwm])
    rw [this,E8v oow,uwm,show cp / 4096 % 256=cp / 64 / 64 by omega,Int.ediv_one]
   ·have a:H3 cp=4:=by grind[H3]
    rw [jX h3,cond_false,a]
    have e:X1 cp (((4:Int) - 1 - 0).toNat+1) cp (List.replicate (4:Int).toNat (0:UInt8)) (4 - 1)=[by8 (240+cp / 64 / 64 / 64),by8 (128+cp / 64 / 64 % 64),by8 (128+cp / 64 % 64),by8 (128+cp % 64)]:=by
     refine (B6w cp 3 cp [0,0,0,0] 3 ozw h).trans ((B6w cp 2 _ _ 2 ozw opx).trans ((B6w cp 1 _ _ 1 ozw opx).trans ((D7o ..).trans ?_)))
     rw [a];rw [show ([0,0,192,224,240]:List Int).getD (4:Int).toNat 0=240 from rfl,uw opx opx];rfl
    rw [show decide ((4:Int)=1)=false from rfl,cond_false,e,F2b 0 cp 1 rfl ozw,F2b 6 cp 64 rfl ozw,F2b 12 cp 4096 rfl ozw]
    have:=G3s (by8 (IntKind.u8.wrap (cp / 262144))).toNat (by have:=E8v (m:=IntKind.u8.wrap (cp / 262144)) oow;grind[uwm])
    rw [this,E8v oow,uwm,show cp / 262144 % 256=cp / 64 / 64 / 64 by omega,show cp / 4096=cp / 64 / 64 by omega,Int.ediv_one]
theorem F6i (cp:Int):B6n cp=B0j cp:=by
 unfold B6n B0j
 rw [E0u]
 cases h:A2n cp<;>simp_all[A2n,F3p]
theorem F0e:∀ (l:List Int) (t i:Nat) (b:List UInt8),A9s l t b=A6m l b i
 | [],t,i,b=>rfl
 | x::l,t,i,b=>by
  simp only [A9s,A6m,B5,J9,F6i]
  exact F0e l _ _ _
theorem F9h (l:List Int):C3y l=B3v l:=F0e l 0 0 []
end
theorem C9g {α:Type} {xs:List α} {k:Nat} {d:α} (h:k<xs.length):xs.getD k d=xs[k]:=by grind
def tOk (x:Int):Bool:=decide (32≤x)&&(decide (x<127)||decide (159<x))
theorem E6u:∀ (l:List Int) (t:Nat),(A6j l t).isSome=l.all tOk
 | [],t=>rfl
 | x::l,t=>by
  simp only [A6j,List.all_cons]
  cases h:tOk x with
  | true=>rw [show ((decide ((32:Int)≤x))&&((decide (x<127))||(decide ((159:Int)<x))))=true from h];simpa [B0t] using E6u l (t+1)
  | false=>rw [show ((decide ((32:Int)≤x))&&((decide (x<127))||(decide ((159:Int)<x))))=false from h];rfl
theorem D9y (s:List UInt8) (l:List Int):∀ (fu i:Nat),l.length - i<fu→i≤l.length→A7k s fu l i=((l.drop i).all tOk&&decide (B3v l=s))
 | 0,i,h,_=>by omega
 | fu+1,i,h,hi=>by
  simp only [A7k,B5]
  by_cases c:(i:Int)<(l.length:Int)
  ·rw [jQ c,cond_true,D9y s l fu (i+1) opx opx]
   have a:i<l.length:=by omega
   rw [List.drop_eq_getElem_cons a,List.all_cons,C9g a]
   generalize l[i]=x
   by_cases d:tOk x=true
   ·rw [d,Bool.true_and]
    unfold tOk at d;grind
   ·have b:tOk x=false:=by grind
    rw [b,Bool.false_and,Bool.false_and]
    unfold tOk at d;grind
  grind
theorem E8z (t:List UInt8):(B1x t).isSome=A2m t:=by
 unfold B1x A2m
 simp only [B5,F6m,F9h]
 by_cases h:(510:Int)<(t.length:Int)
 ·rw [jQ h,cond_true,jX (show ¬ (t.length:Int)≤510 by omega),Bool.false_and];rfl
 ·rw [jX h,cond_false,jQ (show (t.length:Int)≤510 by omega),Bool.true_and,D9y t _ _ 0 opx (Nat.zero_le _),List.drop_zero]
  cases decide (B3v (A7l t)=t) with
  | false=>rw [Bool.and_false];rfl
  | true =>
   rw [Bool.and_true]
   show (A6j _ 0).isSome=_
   simp[E6u]
theorem F3l:B0t true=some ():=rfl
theorem D2m (t:List UInt8):A4j 0 0 ZU t=0 ↔ A2m t=true:=by
 rw [← E8z]
 have e:B2e 0 0 ZU t=(B1x t).map fun _=>[50,59]++t:=by
  unfold B2e B6k C5k
  rw [show decide ((⟨44,0,0,ZU,t⟩:Act)={ZZ with kind:=(⟨44,0,0,ZU,t⟩:Act).kind,text:=(⟨44,0,0,ZU,t⟩:Act).text})=true from jQ rfl]
  rw [F3l]
  cases B1x t<;>rfl
 unfold A4j C5h
 simp only [B5,e]
 cases B1x t<;>simp [D4v]
theorem E5d (t:List UInt8):B3d 0 0 ZU t=A2m t:=by
 unfold B3d B8q
 simp only [B5]
 rw [show decide ((⟨44,0,0,ZU,t⟩:Act)={ZZ with kind:=44,text:=t})=true from jQ Z,Bool.true_and]
 grind
def inS (cp:Int) (s:Spn):Bool:=decide (s.lo≤cp)&&decide (cp≤s.hi)
def inA (cp:Int) (s:Ar2):Bool:=decide (s.a≤cp)&&decide (cp≤s.b)
theorem E4g (cp:Int):∀ (l:List Spn) (t:Nat),A9o cp l t=l.any (inS cp)
 | [],t=>rfl
 | s::l,t=>by
  simp only [A9o,List.any_cons,E4g cp l]
  rfl
theorem C8e (cp:Int):∀ (l:List Ar2) (t:Nat),A9v cp l t=l.any (inA cp)
 | [],t=>rfl
 | s::l,t=>by
  simp only [A9v,List.any_cons,C8e cp l]
  rfl
theorem in0 (cp:Int):A6c cp E3y=A8g B4m cp:=by rfl
theorem in1 (cp:Int):A6c cp F2z=A8g B4j cp:=by
 unfold A6c A8g;rw [E4g,C8e]
 rw [Bool.eq_iff_iff]
 simp only [F2z,B4j,List.any_cons,List.any_nil,inS,inA,Bool.or_eq_true,Bool.and_eq_true,decide_eq_true_eq,Bool.or_false,Bool.false_eq_true,or_false]
 omega
theorem E6h (cp:Int):A6b cp=P7 cp:=by
 unfold A6b P7
 simp only [B5]
 rw [in0,in1,E0u]
 have e:A6c cp [{Spn.zero with lo:=0,hi:=31},{Spn.zero with lo:=127,hi:=159}]=(inS cp ⟨0,31⟩||inS cp ⟨127,159⟩):=by simp[A6c,E4g]
 rw [e]
 cases hc:A2n cp with
 | false=>simp
 | true =>
  unfold A2n at hc;simp only [Bool.and_eq_true,decide_eq_true_eq] at hc
  have a:(inS cp ⟨0,31⟩||inS cp ⟨127,159⟩)=(decide (cp<32)||(decide (127≤cp)&&decide (cp<160))):=by
   rw [Bool.eq_iff_iff];simp only [inS,Bool.or_eq_true,Bool.and_eq_true,decide_eq_true_eq];omega
  rw [a]
  simp only [Bool.not_true,Bool.false_or]
  cases (decide (cp<32)||(decide (127≤cp)&&decide (cp<160))) with
  | true=>rfl
  | false =>
   simp only [cond_false]
   by_cases h:cp<(E3y.getD 0 Spn.zero).lo
   ·rw [jQ h,cond_true]
    have b:cp<768:=h
    have z:A8g B4m cp=false:=by
     unfold A8g;rw [C8e,← Bool.not_eq_true]
     simp only [B4m,List.any_cons,List.any_nil,inA,Bool.or_eq_true,Bool.and_eq_true,decide_eq_true_eq,Bool.false_eq_true,or_false]
     omega
    have z2:A8g B4j cp=false:=by
     unfold A8g;rw [C8e,← Bool.not_eq_true]
     simp only [B4j,List.any_cons,List.any_nil,inA,Bool.or_eq_true,Bool.and_eq_true,decide_eq_true_eq,Bool.false_eq_true,or_false]
     omega
    grind
   grind
theorem C4a (c:Col):I2 c=U6 c:=by
 unfold I2 U6
 by_cases h0:c.kind=0
 ·rw [h0]
  show (bif (((decide ((0:Int)<0)||decide ((3:Int)≤0))||decide (c.n<0))||decide ((0:Int)<c.n)) then (130:Int) else 0)=(bif decide (c.n=0) then (0:Int) else 130)
  grind
 ·rw [jX h0,cond_false]
  by_cases h1:c.kind=1
  ·rw [h1]
   show (bif (((decide ((1:Int)<0)||decide ((3:Int)≤1))||decide (c.n<0))||decide ((255:Int)<c.n)) then (130:Int) else 0)=(bif (decide (0≤c.n)&&decide (c.n≤255)) then (0:Int) else 130)
   grind
  ·rw [jX h1,cond_false]
   by_cases h2:c.kind=2
   ·rw [h2]
    show (bif (((decide ((2:Int)<0)||decide ((3:Int)≤2))||decide (c.n<0))||decide ((16777215:Int)<c.n)) then (130:Int) else 0)=(bif (decide (0≤c.n)&&decide (c.n≤16777215)) then (0:Int) else 130)
    grind
   grind
theorem F3k {a:Int} (g:-9223372036854775808≤a) (f:a≤9223372036854775807):cH .andNot .i64 a 255=0 ↔ 0≤a∧a≤255:=by
 show IntKind.i64.wrap (((BitVec.ofInt 64 a &&& ~~~ BitVec.ofInt 64 255).toNat:Nat):Int)=0 ↔ _
 have d:∀ v:BitVec 64,IntKind.i64.wrap ((v.toNat:Nat):Int)=0 ↔ v=0#64:=fun v=>by
  have:=v.isLt
  constructor
  ·intro h
   apply BitVec.eq_of_toNat_eq
   grind[IntKind.wrap,IntKind.bits]
  ·intro h;subst h;decide
 rw [d]
 have e:(BitVec.ofInt 64 a).toNat=(a % 18446744073709551616).toNat:=by rfl
 constructor
 ·intro h
  have c:(BitVec.ofInt 64 a).toNat<2 ^ 8:=by
   apply Nat.lt_pow_two_of_testBit
   intro i j
   have hb:(BitVec.ofInt 64 a &&& ~~~ BitVec.ofInt 64 255).getLsbD i=false:=by grind
   rw [BitVec.getLsbD_and,BitVec.getLsbD_not] at hb
   by_cases hi64:i<64
   ·have b:(BitVec.ofInt 64 255).getLsbD i=false:=by
     show (255:Nat).testBit i=false
     exact Nat.testBit_lt_two_pow (Nat.lt_of_lt_of_le (by decide:255<2 ^ 8) (Nat.pow_le_pow_right ozw j))
    grind
   ·exact Nat.testBit_lt_two_pow (Nat.lt_of_lt_of_le (BitVec.isLt _) (Nat.pow_le_pow_right ozw opx))
  omega
 ·intro h
  obtain ⟨n,rfl⟩:∃ n:Nat,a=n:=⟨a.toNat,by omega⟩
  have k:n<256:=by omega
  clear h g f e d
  revert k;revert n;decide +kernel
theorem E6x (s:Sty) (b:-9223372036854775808≤s.attr) (a:s.attr≤9223372036854775807):G2 s=B2g s:=by
 unfold G2 B2g
 rw [C4a,C4a,C4a]
 have e:((!decide ((cH .andNot .i64 s.attr 255)=0))||(decide (s.under<0)))=(((decide (s.attr<0))||(decide ((255:Int)<s.attr)))||(decide (s.under<0))):=by
  congr 1
  rw [Bool.eq_iff_iff];simp_all[F3k]
 rw [e]
theorem F8i (c:Cel):B5i c=A5u c:=by
 unfold B5i A5u
 rw [Bool.eq_iff_iff];simp only [Bool.and_eq_true,decide_eq_true_eq]
 cases c with
 | mk b m w s =>
  simp only [ZV,Cel.mk.injEq]
  grind
def aIn (c:Cel):Prop:=-9223372036854775808≤c.sty.attr∧c.sty.attr≤9223372036854775807
theorem F0a (c:Cel) (h:aIn c):A1q c=0 ↔ A0w c=0:=by
 unfold A1q A0w
 rw [E6x _ h.1 h.2,F8i]
 cases hs:decide (B2g c.sty=0) with
 | false=>simp
 | true =>
  simp only [Bool.not_true,Bool.or_false,cond_false]
  cases h2:A5u c with
  | true=>simp
  | false =>
   simp only [Bool.false_or,cond_false,B4h,E6h,Bool.or_false]
   by_cases m1:((!decide (c.marks.a=0))&&(!decide ((P7 c.marks.a)=0)))=true
   ·grind
   ·rw [show ((!decide (c.marks.a=0))&&(!decide ((P7 c.marks.a)=0)))=false by grind]
    simp only [cond_false]
    have f:((decide (c.marks.a=0))||(!decide ((P7 c.marks.b)=0)))=((!decide ((P7 c.marks.b)=0))||(decide (c.marks.a=0))):=Bool.or_comm _ _
    rw [f]
    cases ((!decide (c.marks.b=0))&&((!decide ((P7 c.marks.b)=0))||(decide (c.marks.a=0)))) with
    | true=>simp
    | false =>
     simp only [cond_false,Bool.and_true]
     have e:((((decide ((0:Int)≤c.wide))&&(decide (c.wide≤1)))&&(decide ((P7 c.base)=(IntKind.i64.wrap (c.wide+(1:Int)))))))=(((decide ((P7 c.base)=1))&&(decide (c.wide=0)))||((decide ((P7 c.base)=2))&&(decide (c.wide=1)))):=by
      rw [Bool.eq_iff_iff];simp only [Bool.and_eq_true,Bool.or_eq_true,decide_eq_true_eq]
      constructor
      ·rintro ⟨⟨a,b⟩,d⟩;rw [iw opx opx] at d;omega
      ·rintro h;rw [iw opx opx];omega
     grind
theorem D0x (a:jk) (j:∀ c ∈ a,aIn c):∀ (rest:jk) (t i:Nat) (last:Cel),rest=a.drop i→i≤a.length→(decide (last.wide=1)=(decide ((0:Int)<(i:Int))&&decide ((a.getD (i - 1) ZV).wide=1)))→(0<i→last=a.getD (i - 1) ZV)→(rest=[]→last.wide≠1) →
  (A2e rest t last=0 ↔ X4 a rest i=0)
 | [],t,i,last,h,hi,h1,h2,h3=>by simp only [A2e,X4];grind
 | x::xs,t,i,last,h,hi,h1,h2,h3=>by
  have b:i<a.length:=by
   grind
  have m:=List.drop_eq_getElem_cons b
  have f:x=a[i]:=by grind
  have e:xs=a.drop (i+1):=by grind
  have d:xs.length=a.length - (i+1):=by grind
  simp only [A2e,X4]
  rw [← h1]
  by_cases hcell:A1q x=0
  ·rw [hcell,(F0a x (j x (by grind))).1 hcell]
   simp only [decide_true,Bool.not_true,Bool.false_or,cond_false]
   by_cases hm:decide (last.wide=1)=decide (x.wide=2)
   ·rw [← hm]
    simp only [beq_self_eq_true,Bool.not_true,Bool.false_or]
    have g:(decide (last.wide=1)&&!decide (x.sty=last.sty))=(decide (last.wide=1)&&!decide (x.sty=(a.getD (i - 1) ZV).sty)):=by
     grind
    rw [g]
    cases (decide (last.wide=1)&&!decide (x.sty=(a.getD (i - 1) ZV).sty)) with
    | true=>simp
    | false =>
     simp only [Bool.false_or,cond_false]
     by_cases hw:x.wide=1
     ·by_cases he:(i:Int)=(a.length:Int) - 1
      ·rw [jQ hw,jQ he]
       have:xs=[]:=List.eq_nil_of_length_eq_zero opx
       grind[A2e]
      ·rw [jX he,Bool.and_false,cond_false]
       exact D0x a j xs (t+1) (i+1) x e opx (by grind) (fun _=>by grind) (fun l=>by grind)
     ·rw [jX hw,Bool.false_and,cond_false]
      exact D0x a j xs (t+1) (i+1) x e opx (by grind) (fun _=>by grind) (fun _=>hw)
   grind
  grind[F0a]
theorem E8r (a:jk) (w:Bool) (b:∀ c ∈ a,aIn c):W7 a w=0 ↔ U5 a w=true:=by
 unfold U5;rw [decide_eq_true_eq]
 unfold W7 B1y
 cases hb:((decide ((a.length:Int)<2))||(decide ((80:Int)<(a.length:Int)))) with
 | true=>simp
 | false =>
  simp only [cond_false]
  simp only [Bool.or_eq_false_iff,decide_eq_false_iff_not] at hb
  exact D0x a b a 0 0 ZV oom (Nat.zero_le _) Z (fun h=>absurd h ozw) (fun _=>by decide)
theorem C9y (f:FrmC):∀ (a:jj) (t:Nat),(∀ r ∈ a,(r.length:Int)=f.cols∧W7 r false=0)→S2 f a true t=0
 | [],t,_=>rfl
 | r::a,t,h=>by
  have b:=h r jU
  simp only [S2]
  rw [jQ b.1,jQ b.2]
  exact C9y f a (t+1) (fun x c=>h x (List.mem_cons_of_mem _ c))
theorem D0d (f:FrmC):∀ (a:jj) (i:Nat),X7 f a i=true ↔ (∀ r ∈ a,(r.length:Int)=f.cols∧U5 r false=true)∧A2m f.title=true
 | [],i=>by simp only [X7,E5d];exact ⟨fun h=>⟨fun r hr=>absurd hr List.not_mem_nil,h⟩,fun h=>h.2⟩
 | r::a,i=>by
  simp only [X7]
  cases hb:((!decide ((r.length:Int)=f.cols))||(!(U5 r false))) with
  | true =>
   simp only [cond_true]
   simp only [Bool.or_eq_true,Bool.not_eq_true',decide_eq_false_iff_not] at hb
   constructor
   ·intro h;cases h
   ·rintro ⟨h,_⟩
    have:=h r jU
    rcases hb with hb | hb
    ·exact absurd this.1 hb
    ·rw [this.2] at hb;cases hb
  | false =>
   simp only [cond_false]
   simp only [Bool.or_eq_false_iff,Bool.not_eq_false',decide_eq_true_eq] at hb
   rw [D0d f a (i+1)]
   constructor
   ·rintro ⟨h,c⟩
    exact ⟨fun x b=>by rcases List.mem_cons.1 b with rfl | b;exact hb;exact h x b,c⟩
   ·rintro ⟨h,c⟩
    exact ⟨fun x b=>h x (List.mem_cons_of_mem _ b),c⟩
theorem B9k {f:FrmC} {a:jj} (d:∀ r ∈ a,∀ x ∈ r,aIn x):S5 f a=0 ↔ L6 f a=true:=by
 unfold S5 L6
 constructor
 ·intro h
  obtain ⟨c,b⟩:=B2l _ _ _ _ h
  simp only [Bool.and_eq_true,decide_eq_true_eq] at c
  rw [show ((((((decide (f.cols<2))||(decide ((80:Int)<f.cols)))||(decide ((a.length:Int)<1)))||(decide ((40:Int)<(a.length:Int))))||(decide (f.shape<0)))||(decide ((6:Int)<f.shape)))=false by grind,cond_false]
  rw [show ((((decide (f.cursor.row<0))||(decide ((a.length:Int)≤f.cursor.row)))||(decide (f.cursor.col<0)))||(decide (f.cols≤f.cursor.col)))=false by grind,cond_false]
  grind[D0d,E8r,D2m]
 ·intro h
  cases hb:((((((decide (f.cols<2))||(decide ((80:Int)<f.cols)))||(decide ((a.length:Int)<1)))||(decide ((40:Int)<(a.length:Int))))||(decide (f.shape<0)))||(decide ((6:Int)<f.shape))) with
  | true=>grind
  | false =>
   rw [hb,cond_false] at h
   cases hb2:((((decide (f.cursor.row<0))||(decide ((a.length:Int)≤f.cursor.row)))||(decide (f.cursor.col<0)))||(decide (f.cols≤f.cursor.col))) with
   | true=>grind
   | false =>
    rw [hb2,cond_false,D0d] at h
    simp only [Bool.or_eq_false_iff,decide_eq_false_iff_not] at hb hb2
    rw [(jQ ((D2m f.title).2 h.2):decide (A4j 0 0 ZU f.title=0)=true)]
    rw [show ((((((((((decide ((2:Int)≤f.cols))&&(decide (f.cols≤80)))&&(decide ((1:Int)≤(a.length:Int))))&&(decide ((a.length:Int)≤40)))&&(decide ((0:Int)≤f.cursor.row)))&&(decide (f.cursor.row<(a.length:Int))))&&(decide ((0:Int)≤f.cursor.col)))&&(decide (f.cursor.col<f.cols)))&&(decide ((0:Int)≤f.shape)))&&(decide (f.shape≤6)))=true by grind]
    grind[C9y,E8r]
end Go.Proofs.YtmldjljkeigpnaaGreatDoor
namespace Go.Proofs.YtmldjljkeigpnaaGreatDoor
section
open Go Go.Fen open Go.IntKind (i64)
variable {l:List (List Int)} {r:List Int} {x:Int}
theorem D1n (v:BitVec 64):i64.wrap (v.toNat:Int)=v.toInt:=by grind[IntKind.wrap,IntKind.bits,IntKind.signed]
theorem E7v (v:BitVec 64):BitVec.ofInt 64 (i64.wrap (v.toNat:Int))=v:=by simp[D1n]
def bq (x:Int) (j:Nat):Bool:=(BitVec.ofInt 64 x).getLsbD j
theorem D0n (x y:Int) (j:Nat) (a:j<64):bq (cH .andNot .i64 x y) j=(bq x j&&!bq y j):=by
 unfold bq cH
 show (BitVec.ofInt 64 (i64.wrap ((BitVec.ofInt 64 x &&& ~~~BitVec.ofInt 64 y).toNat:Int))).getLsbD j=_
 rw [E7v,BitVec.getLsbD_and,BitVec.getLsbD_not,jQ a,Bool.true_and]
theorem B9d (x:Int) (b:Int) (j:Nat) (hb:BitVec.ofInt 64 b=BitVec.twoPow 64 j) (a:(BitVec.twoPow 64 j).toInt=b):cH .and .i64 x b=bif bq x j then b else 0:=by
 unfold bq cH
 show i64.wrap ((BitVec.ofInt 64 x &&& BitVec.ofInt 64 b).toNat:Int)=_
 rw [D1n,hb,BitVec.and_twoPow]
 grind
theorem G1o (x:Int):cH .and .i64 x 1=bif bq x 0 then 1 else 0:=B9d x 1 0 ozw ozw
theorem G2m (x:Int):cH .and .i64 x 2=bif bq x 1 then 2 else 0:=B9d x 2 1 ozw ozw
theorem G5z (x:Int):cH .and .i64 x 4=bif bq x 2 then 4 else 0:=B9d x 4 2 ozw ozw
theorem G6m (x:Int):cH .and .i64 x 8=bif bq x 3 then 8 else 0:=B9d x 8 3 ozw ozw
theorem G5g (x:Int):cH .and .i64 x 16=bif bq x 4 then 16 else 0:=B9d x 16 4 ozw ozw
theorem G4s (x:Int):cH .and .i64 x 32=bif bq x 5 then 32 else 0:=B9d x 32 5 ozw ozw
theorem G5a (x:Int):cH .and .i64 x 64=bif bq x 6 then 64 else 0:=B9d x 64 6 ozw ozw
theorem G2r (x:Int):cH .and .i64 x 128=bif bq x 7 then 128 else 0:=B9d x 128 7 ozw ozw
theorem G6e (x:Int):decide (cH .and .i64 x 3=0)=(!(bq x 0||bq x 1)):=by
 have e:BitVec.ofInt 64 3=BitVec.twoPow 64 0 ||| BitVec.twoPow 64 1:=by decide
 unfold bq cH
 show decide (i64.wrap ((BitVec.ofInt 64 x &&& BitVec.ofInt 64 3).toNat:Int)=0)=_
 rw [D1n,e,BitVec.and_or_distrib_left,BitVec.and_twoPow,BitVec.and_twoPow]
 grind
theorem nz (c:Bool) (b:Int) (hb:b≠0):decide ((bif c then b else 0)=0)=!c:=by grind
theorem bq3:∀ j<8,bq 3 j=(decide (j=0)||decide (j=1)):=by decide
def gq (f t:Sty):Bool:=(bq f.attr 0&&!bq t.attr 0)||(bq f.attr 1&&!bq t.attr 1)
theorem E7k (f t:Sty):D5c f t=gq f t:=by simp[D5c,gq,G6e,D0n]
theorem E3x (f t:Sty) (j:Nat) (a:j<8):bq (B9x f t) j=(bq f.attr j&&!(gq f t&&decide (j<2))):=by
 unfold B9x;rw [E7k]
 cases gq f t with
 | false=>simp
 | true =>
  rw [cond_true,D0n _ _ _ opx,bq3 j a]
  congr 1
  rcases j with _ | _ | j<;>simp
def pw8 (j:Nat):Int:=(2:Int) ^ j
theorem C4p (x:Int):∀ j<8,cH .and .i64 x (pw8 j)=bif bq x j then pw8 j else 0:=by
 intro j a
 rcases j with _ | _ | _ | _ | _ | _ | _ | _ | j
 ·exact G1o x
 ·exact G2m x
 ·exact G5z x
 ·exact G6m x
 ·exact G5g x
 ·exact G4s x
 ·exact G5a x
 ·exact G2r x
 ·omega
theorem F1h:∀ j<8,pw8 j≠0:=by decide
theorem E9l:∀ j<8,0<pw8 j:=by decide
theorem D6p:C2q=(List.range 8).map pw8:=by decide
theorem E3w (f t:Sty) (j:Nat) (a:j<8):D3j (B9x f t) t (pw8 j)=(bq (B9x f t) j&&!bq t.attr j):=by simp_all[D3j,C4p,nz,F1h]
theorem F0k (f t:Sty) (j:Nat) (a:j<8):D8g (B9x f t) t (pw8 j)=(bq t.attr j&&!bq (B9x f t) j):=by simp_all[D8g,C4p,nz,F1h]
theorem F3x (f t:Sty) (j:Nat) (a:j<8):E3d f (gq f t) (pw8 j)=bq (B9x f t) j:=by
 unfold E3d
 have e:decide (pw8 j<4)=decide (j<2):=by revert j;decide
 rw [E3x f t j a,e,C4p _ j a]
 have b:(decide ((0:Int)<bif bq f.attr j then pw8 j else 0))=bq f.attr j:=by
  cases bq f.attr j<;>simp_all[E9l]
 grind
theorem F9o (f t:Sty) (j:Nat) (a:j<8):C6a f t (gq f t) (pw8 j)=D8g (B9x f t) t (pw8 j):=by
 unfold C6a
 rw [F0k f t j a,F3x f t j a,C4p _ j a]
 congr 1
 cases bq t.attr j<;>simp_all[E9l]
theorem F6s (p q:Bool) (b:Int) (hb:0<b):decide ((bif p then b else 0)<(bif q then b else 0))=(q&&!p):=by grind
theorem F5t (f t:Sty):D4m f t=gq f t:=by simp[D4m,gq,G1o,G2m,F6s]
theorem F9c (f t:Sty) (j:Nat) (a:j<8) (b:2≤j):C9e f t (pw8 j)=D3j (B9x f t) t (pw8 j):=by
 unfold C9e
 rw [E3w f t j a,E3x f t j a,C4p _ j a,C4p _ j a,F6s _ _ _ (E9l j a),show decide (j<2)=false by grind,Bool.and_false,Bool.not_false,Bool.and_true]
theorem E2j (f t:Sty) (j:Nat) (a:j<2):D3j (B9x f t) t (pw8 j)=false:=by
 rw [E3w f t j opx,E3x f t j opx,show decide (j<2)=true by simp [a],Bool.and_true]
 grind[gq]
theorem E9y (f t:Sty):D9u f t=chg f t:=by
 unfold D9u chg E5w sets
 rw [F5t,E7k,D6p]
 have d:([4,8,16,32,64,128]:List Int)=(List.range' 2 6).map pw8:=by decide
 have g:(List.range 8)=[0,1]++List.range' 2 6:=by decide
 have es:∀ (l:List Nat),(∀ j ∈ l,j<8)→(l.map pw8).flatMap (fun b=>Y7 (C6a f t (gq f t) b) (kA 1 b))=(l.map pw8).flatMap (fun b=>Y7 (D8g (B9x f t) t b) (kA 1 b)):=by
  intro l a
  rw [List.flatMap_map,List.flatMap_map]
  induction l<;>grind[F9o]
 have e:∀ (l:List Nat),(∀ j ∈ l,j<8∧2≤j)→(l.map pw8).flatMap (fun b=>Y7 (C9e f t b) (kA 2 b))=(l.map pw8).flatMap (fun b=>Y7 (D3j (B9x f t) t b) (kA 2 b)):=by
  intro l a
  rw [List.flatMap_map,List.flatMap_map]
  induction l<;>simp_all[F9c]
 rw [es (List.range 8) (fun j c=>List.mem_range.1 c),d,e (List.range' 2 6) ozw]
 congr 1
 congr 1
 rw [g,List.map_append,List.flatMap_append]
 have z:(([0,1]:List Nat).map pw8).flatMap (fun b=>Y7 (D3j (B9x f t) t b) (kA 2 b))=[]:=by
  simp only [List.map_cons,List.map_nil,List.flatMap_cons,List.flatMap_nil,E2j f t 0 opx,E2j f t 1 opx]
  rfl
 rw [z,List.nil_append]
theorem F4j (a b:Bool) (x y:Act) (h:(a&&b)=false):(Y7 a x).length+(Y7 b y).length≤1:=by
 cases a<;>cases b<;>simp [Y7] at h ⊢
theorem E0o (f t:Sty):(chg f t).length≤13:=by
 have c:∀ j<8,(D3j (B9x f t) t (pw8 j)&&D8g (B9x f t) t (pw8 j))=false:=by
  intro j b;rw [E3w f t j b,F0k f t j b]
  cases bq (B9x f t) j<;>cases bq t.attr j<;>rfl
 have h:=D0i
 unfold chg E5w sets B3t
 rw [D6p,show List.range 8=[0,1,2,3,4,5,6,7] from rfl]
 simp only [List.map_cons,List.map_nil,List.flatMap_cons,List.flatMap_nil,List.length_append,List.length_nil]
 have g:=h (D5c f t) (kA 2 3)
 have a:=fun j (b:j<8)=>F4j _ _ (kA 2 (pw8 j)) (kA 1 (pw8 j)) (c j b)
 have c0:=a 0 opx;have c1:=a 1 opx;have c2:=a 2 opx;have d:=a 3 opx;have l:=a 4 opx;have e:=a 5 opx;have k:=a 6 opx;have i:=a 7 opx
 have u:=h (!decide (f.under=t.under)) (kA 3 t.under);have v:=h (!decide (f.fore=t.fore)) (kC 4 t.fore);have w:=h (!decide (f.back=t.back)) (kC 5 t.back);have x:=h (!decide (f.line=t.line)) (kC 6 t.line)
 omega
theorem A5r (h:-1000000000≤x∧x≤1000000000):i64.wrap x=x:=A3b (by show (-9223372036854775808:Int)≤_;omega) (by show _≤(9223372036854775807:Int);omega)
theorem F3w (c:0≤x) (b:x≤9223372036854775807):cH .and .i64 x 255=x % 256:=by
 obtain ⟨n,rfl⟩:∃ n:Nat,x=n:=⟨x.toNat,by omega⟩
 show i64.wrap (((BitVec.ofInt 64 (n:Int)) &&& (BitVec.ofInt 64 255)).toNat:Int)=_
 have a:n<2 ^ 64:=by omega
 have e:((BitVec.ofInt 64 (n:Int)) &&& (BitVec.ofInt 64 255)).toNat=n % 256:=by
  rw [BitVec.toNat_and,BitVec.ofInt_natCast,BitVec.toNat_ofNat,Nat.mod_eq_of_lt a]
  show n &&& 255=_
  exact Nat.and_two_pow_sub_one_eq_mod n 8
 rw [e,A5r opx];omega
def C0h (p:Int):Int:=38+10 * (p - 4)
def D1g (p:Int) (c:Col):List Int :=
 if c.kind=0 then [C0h p+1] else if c.kind=2 then [C0h p,2,-1,c.n / 65536,c.n / 256 % 256,c.n % 256] else if c.n<8∧p≠6 then [C0h p - 8+c.n] else if c.n<16∧p≠6 then [C0h p+44+c.n] else [C0h p,5,c.n]
theorem E9r {c:Col} (h:I2 c=0):(c.kind=0∧c.n=0)∨(c.kind=1∧0≤c.n∧c.n≤255)∨(c.kind=2∧0≤c.n∧c.n≤16777215):=by
 rw [C4a] at h
 unfold U6 at h
 by_cases h0:c.kind=0
 ·rw [jQ h0,cond_true] at h
  by_cases h1:c.n=0
  ·exact .inl ⟨h0,h1⟩
  ·rw [jX h1,cond_false] at h;omega
 ·rw [jX h0,cond_false] at h
  by_cases h1:c.kind=1
  ·rw [jQ h1,cond_true] at h
   by_cases h2:0≤c.n∧c.n≤255
   ·exact .inr (.inl ⟨h1,h2⟩)
   ·rw [show (decide ((0:Int)≤c.n)&&decide (c.n≤255))=false by simp only [Bool.and_eq_false_iff,decide_eq_false_iff_not];omega,cond_false] at h;omega
  ·rw [jX h1,cond_false] at h
   by_cases h2:c.kind=2
   ·rw [jQ h2,cond_true] at h
    by_cases h3:0≤c.n∧c.n≤16777215
    ·exact .inr (.inr ⟨h2,h3⟩)
    ·rw [show (decide ((0:Int)≤c.n)&&decide (c.n≤16777215))=false by simp only [Bool.and_eq_false_iff,decide_eq_false_iff_not];omega,cond_false] at h;omega
   ·rw [jX h2,cond_false] at h;omega
theorem E6o (p:Int) (a:p=4∨p=5∨p=6) (c:Col) (h:I2 c=0):Q8 (kC p c)=D1g p c:=by
 have e:Q8 (kC p c)=B7d (kC p c):=by rcases a with rfl | rfl | rfl<;>rfl
 rw [e]
 have g:=E9r h
 have d:i64.wrap ((38:Int)+(i64.wrap ((10:Int) * (i64.wrap (p - (4:Int))))))=C0h p:=by rcases a with rfl | rfl | rfl<;>rfl
 have b:38≤C0h p∧C0h p≤58:=by unfold C0h;omega
 unfold B7d
 show (bif decide (c.kind=0) then _ else _)=_
 simp only [B5,V6]
 show (bif decide (c.kind=0) then [i64.wrap (i64.wrap ((38:Int)+(i64.wrap ((10:Int) * (i64.wrap (p - (4:Int))))))+1)] else (bif decide (c.kind=2) then [i64.wrap ((38:Int)+(i64.wrap ((10:Int) * (i64.wrap (p - (4:Int)))))),2,(-1),(c.n / 65536),(cH .and .i64 (c.n / 256) 255),(cH .and .i64 c.n 255)] else (bif (decide (c.n<8)&&!decide (p=6)) then [i64.wrap (i64.wrap (i64.wrap ((38:Int)+(i64.wrap ((10:Int) * (i64.wrap (p - (4:Int)))))) - 8)+c.n)] else (bif (decide (c.n<16)&&!decide (p=6)) then [i64.wrap (i64.wrap (i64.wrap (i64.wrap ((38:Int)+(i64.wrap ((10:Int) * (i64.wrap (p - (4:Int))))))+52)+c.n) - 8)] else [i64.wrap ((38:Int)+(i64.wrap ((10:Int) * (i64.wrap (p - (4:Int)))))),5,c.n]))))=_
 rw [d]
 unfold D1g
 have f:0≤c.n∧c.n≤16777215:=by omega
 rw [F3w opx opx,F3w opx opx]
 by_cases h0:c.kind=0
 ·rw [jQ h0,cond_true,if_pos h0,A5r opx]
 ·rw [jX h0,cond_false,if_neg h0]
  by_cases h2:c.kind=2
  ·rw [jQ h2,cond_true,if_pos h2]
  ·rw [jX h2,cond_false,if_neg h2]
   have f:0≤c.n∧c.n≤255:=by omega
   by_cases h8:c.n<8∧p≠6
   ·rw [if_pos h8,jQ h8.1,jX h8.2]
    show [_]=_
    rw [A5r (x:=C0h p - 8) opx,A5r opx]
   ·rw [if_neg h8,show (decide (c.n<8)&&!decide (p=6))=false by simp only [Bool.and_eq_false_iff,decide_eq_false_iff_not,Bool.not_eq_false',decide_eq_true_eq];omega,cond_false]
    by_cases h16:c.n<16∧p≠6
    ·rw [if_pos h16,jQ h16.1,jX h16.2]
     show [_]=_
     rw [A5r (x:=C0h p+52) opx,A5r (x:=C0h p+52+c.n) opx,A5r opx]
     congr 1;omega
    ·rw [if_neg h16,show (decide (c.n<16)&&!decide (p=6))=false by simp only [Bool.and_eq_false_iff,decide_eq_false_iff_not,Bool.not_eq_false',decide_eq_true_eq];omega,cond_false]
theorem F3o (p:Int) (b:p=4∨p=5∨p=6) (c:Col) (h:I2 c=0):A6i (kC p c)=D1g p c:=by
 have g:=E9r h
 have f:i64.wrap ((38:Int)+(i64.wrap ((10:Int) * (i64.wrap (p - (4:Int))))))=C0h p:=by rcases b with rfl | rfl | rfl<;>rfl
 have d:38≤C0h p∧C0h p≤58:=by unfold C0h;omega
 have e:A6i (kC p c)=(bif decide (c.kind=0) then [i64.wrap (i64.wrap ((38:Int)+(i64.wrap ((10:Int) * (i64.wrap (p - (4:Int))))))+1)] else (bif decide (c.kind=2) then [i64.wrap ((38:Int)+(i64.wrap ((10:Int) * (i64.wrap (p - (4:Int)))))),2,(-1),i64.wrap (Int.tdiv c.n 65536),Int.tmod (i64.wrap (Int.tdiv c.n 256)) 256,Int.tmod c.n 256] else (bif (!decide (p=6)&&decide (c.n<8)) then [i64.wrap (i64.wrap (i64.wrap ((38:Int)+(i64.wrap ((10:Int) * (i64.wrap (p - (4:Int)))))) - 8)+c.n)] else (bif (!decide (p=6)&&decide (c.n<16)) then [i64.wrap (i64.wrap (i64.wrap ((38:Int)+(i64.wrap ((10:Int) * (i64.wrap (p - (4:Int))))))+44)+c.n)] else [i64.wrap ((38:Int)+(i64.wrap ((10:Int) * (i64.wrap (p - (4:Int)))))),5,c.n])))):=by
  rcases b with rfl | rfl | rfl<;>rfl
 rw [e,f]
 unfold D1g
 have a:0≤c.n∧c.n≤16777215:=by omega
 rw [Int.tdiv_eq_ediv_of_nonneg a.1,Int.tdiv_eq_ediv_of_nonneg a.1,Int.tmod_eq_emod_of_nonneg a.1,A5r (x:=c.n / 65536) opx,A5r (x:=c.n / 256) opx,Int.tmod_eq_emod_of_nonneg (by omega:0≤c.n / 256)]
 by_cases h0:c.kind=0
 ·rw [jQ h0,cond_true,if_pos h0,A5r opx]
 ·rw [jX h0,cond_false,if_neg h0]
  by_cases h2:c.kind=2
  ·rw [jQ h2,cond_true,if_pos h2]
  ·rw [jX h2,cond_false,if_neg h2]
   have a:0≤c.n∧c.n≤255:=by omega
   by_cases h8:c.n<8∧p≠6
   ·rw [if_pos h8,jQ h8.1,jX h8.2]
    show [_]=_
    rw [A5r (x:=C0h p - 8) opx,A5r opx]
   ·rw [if_neg h8,show (!decide (p=6)&&decide (c.n<8))=false by simp only [Bool.and_eq_false_iff,decide_eq_false_iff_not,Bool.not_eq_false',decide_eq_true_eq];omega,cond_false]
    by_cases h16:c.n<16∧p≠6
    ·rw [if_pos h16,jQ h16.1,jX h16.2]
     show [_]=_
     rw [A5r (x:=C0h p+44) opx,A5r opx]
    ·rw [if_neg h16,show (!decide (p=6)&&decide (c.n<16))=false by simp only [Bool.and_eq_false_iff,decide_eq_false_iff_not,Bool.not_eq_false',decide_eq_true_eq];omega,cond_false]
def B9o (r:List Int):Prop:=1≤r.length∧r.length≤6∧r≠[-1]∧∀ n ∈ r,-1≤n∧n≤9999
theorem F3c (p:Int) (d:p=4∨p=5∨p=6) (c:Col) (h:I2 c=0):B9o (D1g p c):=by
 have e:=E9r h
 have a:38≤C0h p∧C0h p≤58:=by unfold C0h;omega
 have b:0≤c.n∧c.n≤16777215:=by omega
 unfold D1g B9o
 split
 ·refine ⟨by simp,by simp,by simp;omega,?_⟩;simp;omega
 split
 ·refine ⟨by simp,by simp,by simp,?_⟩;simp;omega
 have b:0≤c.n∧c.n≤255:=by omega
 split
 ·refine ⟨by simp,by simp,by simp;omega,?_⟩;simp;omega
 split
 ·refine ⟨by simp,by simp,by simp;omega,?_⟩;simp;omega
 ·refine ⟨by simp,by simp,by simp,?_⟩;simp;omega
structure Told (a:Act):Prop where
 chk:A0q a=0
 rchk:A1v a=0
 same:Q8 a=A6i a
 row:B9o (Q8 a)
theorem E8j:Told (kA 0 0):=⟨by decide +kernel,by decide +kernel,by decide +kernel,⟨by decide +kernel,by decide +kernel,by decide +kernel,by decide +kernel⟩⟩
theorem F2j:Told (kA 2 3):=⟨by decide +kernel,by decide +kernel,by decide +kernel,⟨by decide +kernel,by decide +kernel,by decide +kernel,by decide +kernel⟩⟩
theorem F4d:∀ j<8,Told (kA 1 (pw8 j)):=by
 intro j a
 have h:∀ j<8,A0q (kA 1 (pw8 j))=0∧A1v (kA 1 (pw8 j))=0∧Q8 (kA 1 (pw8 j))=A6i (kA 1 (pw8 j))∧(1≤(Q8 (kA 1 (pw8 j))).length∧(Q8 (kA 1 (pw8 j))).length≤6∧Q8 (kA 1 (pw8 j))≠[-1]∧∀ n ∈ Q8 (kA 1 (pw8 j)),-1≤n∧n≤9999):=by decide +kernel
 exact ⟨(h j a).1,(h j a).2.1,(h j a).2.2.1,(h j a).2.2.2⟩
theorem F6o:∀ j<8,2≤j→Told (kA 2 (pw8 j)):=by
 intro j a b
 have h:∀ j<8,2≤j→A0q (kA 2 (pw8 j))=0∧A1v (kA 2 (pw8 j))=0∧Q8 (kA 2 (pw8 j))=A6i (kA 2 (pw8 j))∧(1≤(Q8 (kA 2 (pw8 j))).length∧(Q8 (kA 2 (pw8 j))).length≤6∧Q8 (kA 2 (pw8 j))≠[-1]∧∀ n ∈ Q8 (kA 2 (pw8 j)),-1≤n∧n≤9999):=by decide +kernel
 exact ⟨(h j a b).1,(h j a b).2.1,(h j a b).2.2.1,(h j a b).2.2.2⟩
theorem E8c (m:Int) (c:0≤m) (b:m≤5):Told (kA 3 m):=by
 obtain ⟨n,rfl⟩:∃ n:Nat,m=n:=⟨m.toNat,by omega⟩
 have a:n<6:=by omega
 have h:∀ n<6,A0q (kA 3 (n:Nat))=0∧A1v (kA 3 (n:Nat))=0∧Q8 (kA 3 (n:Nat))=A6i (kA 3 (n:Nat))∧(1≤(Q8 (kA 3 (n:Nat))).length∧(Q8 (kA 3 (n:Nat))).length≤6∧Q8 (kA 3 (n:Nat))≠[-1]∧∀ x ∈ Q8 (kA 3 (n:Nat)),-1≤x∧x≤9999):=by decide +kernel
 exact ⟨(h n a).1,(h n a).2.1,(h n a).2.2.1,(h n a).2.2.2⟩
theorem E2r (p:Int) (a:p=4∨p=5∨p=6) (c:Col) (h:I2 c=0):Told (kC p c):=by
 refine ⟨?_,?_,by rw [E6o p a c h,F3o p a c h],by rw [E6o p a c h];exact F3c p a c h⟩
 ·have e:A0q (kC p c)=(bif !decide (I2 c=0) then 141 else 0):=by rcases a with rfl | rfl | rfl<;>rfl
  rw [e,h];rfl
 ·have e:A1v (kC p c)=(bif !decide (U6 c=0) then 141 else 0):=by
   rcases a with rfl | rfl | rfl
   ·show (bif (((!decide ((39:Int)=39))||(!(decide (([]:List UInt8)=([]:List UInt8)))))||(!((decide ((0:Int)=0))&&(decide (U6 c=0))))) then (141:Int) else 0)=_
    simp
   ·show (bif (((!decide ((39:Int)=39))||(!(decide (([]:List UInt8)=([]:List UInt8)))))||(!((decide ((0:Int)=0))&&(decide (U6 c=0))))) then (141:Int) else 0)=_
    simp
   ·show (bif (((!decide ((39:Int)=39))||(!(decide (([]:List UInt8)=([]:List UInt8)))))||(!((decide ((0:Int)=0))&&(decide (U6 c=0))))) then (141:Int) else 0)=_
    simp
  rw [e,← C4a,h];rfl
theorem D7p:∀ (r:List Int) (t:Nat),(∀ n ∈ r,-1≤n∧n≤9999)→K6 r t=-1
 | [],t,h=>rfl
 | n::r,t,h=>by
  have b:=h n jU
  simp only [K6]
  rw [show A3r n=false by unfold A3r;simp only [Bool.or_eq_false_iff,decide_eq_false_iff_not];omega,cond_false]
  exact D7p r (t+1) (fun n a=>h n (List.mem_cons_of_mem _ a))
theorem G3v (h:B9o r):A0m r=false:=by
 obtain ⟨b,d,c,a⟩:=h
 unfold A0m O3 X9
 rw [D7p r 0 a]
 simp only [Bool.or_eq_false_iff,decide_eq_false_iff_not];omega
theorem E7p:∀ (l:List (List Int)) (t:Nat),(∀ r ∈ l,B9o r)→F6 l t=-1
 | [],t,h=>rfl
 | r::l,t,h=>by
  simp only [F6]
  rw [G3v (h r jU),cond_false]
  exact E7p l (t+1) (fun n a=>h n (List.mem_cons_of_mem _ a))
theorem E0k (h:∀ r ∈ l,B9o r):(((decide ((l.length:Int)=1))&&(decide (((l.getD 0 []).length:Int)=1)))&&(decide (((l.getD 0 []).getD 0 0)=(-1))))=false:=by
 match l,h with
 | [],_=>rfl
 | [r],h =>
  have hr:=h r jU
  show (((decide (((1:Nat):Int)=1))&&(decide ((r.length:Int)=1)))&&(decide ((r.getD 0 0)=(-1))))=false
  match r,hr with
  | [],hr=>rfl
  | [n],hr =>
   have:n≠-1:=fun e=>hr.2.2.1 (by rw [e])
   show (((decide (((1:Nat):Int)=1))&&(decide (((1:Nat):Int)=1)))&&(decide (n=(-1))))=false
   simp [this]
  | n::m::r,hr =>
   have e:¬ ((((n::m::r).length:Nat):Int)=1):=by simp;omega
   rw [jX e];simp
 | r::q::l,_ =>
  have e:¬ ((((r::q::l).length:Nat):Int)=1):=by simp;omega
  rw [jX e];simp
theorem G1e (a:l.length≤16) (h:∀ r ∈ l,B9o r):A3k l=0:=by
 unfold A3k A9x H4 L5
 rw [E0k h,E7p l 0 h,jX (by omega:¬ (16:Int)<(l.length:Int))]
 rfl
theorem F1i (i:Nat) (ag:Nat→Int):∀ (r:List Int) (k:Nat),(∀ n ∈ r,-1≤n∧n≤9999)→A0l i ag r k=ag (i+1)
 | [],k,h=>rfl
 | n::r,k,h=>by
  have b:=h n jU
  simp only [A0l]
  rw [show ((decide (n<(-1)))||(decide ((9999:Int)<n)))=false by simp only [Bool.or_eq_false_iff,decide_eq_false_iff_not];omega,cond_false]
  exact F1i i ag r (k+1) (fun n a=>h n (List.mem_cons_of_mem _ a))
theorem F0j (l:List (List Int)) (a:∀ r ∈ l,B9o r):∀ (s:List (List Int)) (i:Nat),(∀ r ∈ s,B9o r)→Z2 l s i=0
 | [],i,h=>by simp only [Z2];rw [E0k a];rfl
 | r::s,i,h=>by
  have hr:=h r jU
  have d:=hr.1;have c:=hr.2.1
  simp only [Z2]
  rw [show ((decide ((r.length:Int)<1))||(decide ((6:Int)<(r.length:Int))))=false by simp only [Bool.or_eq_false_iff,decide_eq_false_iff_not];omega,cond_false,F1i i _ r 0 hr.2.2.2]
  exact F0j l a s (i+1) (fun n b=>h n (List.mem_cons_of_mem _ b))
theorem G2i (a:l.length≤16) (h:∀ r ∈ l,B9o r):A7p l=0:=by
 unfold A7p
 rw [jX (by omega:¬ (16:Int)<(l.length:Int)),cond_false]
 exact F0j l h l 0 h
def D6m (n:Int):List UInt8:=bif (!decide (n=-1)) then Lib.itoa n else []
def pr3:List UInt8→List Int→List UInt8
 | _,[]=>[]
 | ah,n::r=>ah++(D6m n++pr3 [58] r)
def pr2:List UInt8→List (List Int)→List UInt8
 | _,[]=>[]
 | ah,r::s=>pr3 ah r++pr2 [59] s
def B5q (es:List (List UInt8×List UInt8)):List UInt8:=es.flatMap fun e=>e.1++e.2
theorem D4k:∀ (es:List (List UInt8×List UInt8)) (b:List UInt8),S3 es b=(b++B5q es,0)
 | [],b=>by simp [S3,B5q]
 | e::es,b=>by
  simp only [S3,B5,J9]
  rw [D4k es];simp [B5q]
def ahd (a b:Nat):List UInt8:=if b=0 then (if a=0 then [] else [59]) else [58]
theorem C5n {α:Type} {x:α} {s l:List α} {t:Nat} (d:α) (h:x::s=l.drop t):t<l.length∧l.getD t d=x∧s=l.drop (t+1):=by
 have a:t<l.length:=by
  by_cases hh:t<l.length
  ·exact hh
  ·rw [List.drop_eq_nil_of_le opx] at h;cases h
 have b:=List.drop_eq_getElem_cons a
 rw [b] at h
 exact ⟨a,by rw [gdE a];exact (List.cons.inj h).1.symm,(List.cons.inj h).2⟩
theorem F7j (c0:List (List Int)) (a:Nat) (ag:Nat→List (List UInt8×List UInt8)):∀ (s:List Int) (b:Nat),s=(c0.getD a []).drop b→B5q (J3 c0 a ag s b)=pr3 (ahd a b) s++B5q (ag (a+1))
 | [],b,h=>by simp [J3,pr3]
 | n::s,b,h=>by
  obtain ⟨i,k,j⟩:=C5n (0:Int) h
  have g:=F7j c0 a ag s (b+1) j
  have f:ahd a (b+1)=[58]:=by unfold ahd;rw [if_neg opx]
  rw [f] at g
  have e:∀ c p,B5q (A2a b c (J3 c0 a ag s) p)=c++(p++(pr3 [58] s++B5q (ag (a+1)))):=by
   intro c p;unfold A2a;rw [show ∀ es,B5q ((c,p)::es)=c++p++B5q es from fun es=>by simp [B5q],g];simp
  have d:∀ c,B5q (A0e c0 a b (J3 c0 a ag s) c)=c++(D6m n++(pr3 [58] s++B5q (ag (a+1)))):=by
   intro c;unfold A0e D6m;rw [k]
   cases (!decide (n=-1)) with
   | true=>rw [cond_true,cond_true,e]
   | false=>rw [cond_false,cond_false,e]
  simp only [J3]
  show B5q (bif (decide ((b:Int)=0)&&decide ((a:Int)=0)) then _ else (bif decide ((b:Int)=0) then _ else _))=_
  unfold pr3 ahd
  by_cases h19:b=0
  ·rw [jQ (by omega:(b:Int)=0),if_pos h19]
   by_cases h11:a=0
   ·rw [jQ (by omega:(a:Int)=0),if_pos h11]
    rw [Bool.and_true,cond_true,d];simp
   ·rw [jX (by omega:¬ (a:Int)=0),if_neg h11]
    rw [Bool.and_false,cond_false,cond_true,d];simp
  ·rw [jX (by omega:¬ (b:Int)=0),if_neg h19]
   rw [Bool.false_and,cond_false,cond_false,d];simp
theorem E9f (c0:List (List Int)):∀ (s:List (List Int)) (a:Nat),s=c0.drop a→B5q (J5 c0 s a)=pr2 (if a=0 then [] else [59]) s
 | [],a,h=>by simp [J5,pr2,B5q]
 | r::s,a,h=>by
  obtain ⟨c,hr,d⟩:=C5n ([]:List Int) h
  have b:=E9f c0 s (a+1) d
  rw [if_neg opx] at b
  simp only [J5,pr2]
  rw [F7j c0 a _ r 0 (by rw [hr];rfl),b]
  unfold ahd;rw [if_pos rfl]
theorem E7c (a:l.length≤16) (h:∀ r ∈ l,B9o r):V9 l=(pr2 [] l,0):=by
 unfold V9
 rw [G1e a h]
 show S3 (Z8 (W4 l)) []=_
 rw [D4k]
 show ([]++B5q (J5 l l 0),(0:Int))=_
 rw [E9f l l 0 rfl,if_pos rfl,List.nil_append]
theorem G6d:∀ n<10,by8 (IntKind.u8.wrap (i64.wrap ((48:Int)+(n:Nat))))=UInt8.ofNat (48+n):=by decide +kernel
theorem C5b:∀ (fu n:Nat),n<fu→S0 fu (n:Int)=Lib.decDigits n
 | 0,n,h=>by omega
 | fu+1,n,h=>by
  simp only [S0]
  rw [Lib.decDigits]
  by_cases hn:n<10
  ·rw [jQ (by omega:(n:Int)<10),cond_true,dif_pos hn,G6d n hn]
  ·rw [jX (by omega:¬ (n:Int)<10),cond_false,dif_neg hn]
   have a:(n:Int) / 10=((n / 10:Nat):Int):=by omega
   have b:(n:Int) % 10=((n % 10:Nat):Int):=by omega
   rw [a,b,C5b fu (n / 10) opx,C5b fu (n % 10) opx,Lib.decDigits_one (by omega:n % 10<10)]
theorem F9s {n:Int} (h:-1≤n) (s:List UInt8):(bif decide ((0:Int)≤n) then s++S0 (n.toNat+1) n else s)=s++D6m n:=by
 unfold D6m
 by_cases h0:0≤n
 ·rw [jQ h0,cond_true,jX (by omega:¬ n=-1)]
  show s++_=s++Lib.itoa n
  obtain ⟨m,rfl⟩:∃ m:Nat,n=m:=⟨n.toNat,by omega⟩
  rw [Lib.itoa_nonneg,show ((m:Int).toNat+1)=m+1 by omega,C5b (m+1) m opx]
 ·rw [jX h0,cond_false,jQ (by omega:n=-1)]
  show s=s++[]
  simp
theorem F1f (l:List (List Int)) (i:Nat) (ag:List UInt8→Nat→List UInt8×Int):∀ (r:List Int) (fu k:Nat) (s:List UInt8),r=(l.getD i []).drop k→r.length<fu→(∀ n ∈ r,-1≤n∧n≤9999)→V4 l i ag fu s k=ag (s++pr3 (if k=0 then [] else [58]) r) (i+1)
 | r,0,k,s,h,hf,hr=>by omega
 | [],fu+1,k,s,h,hf,hr=>by
  have:¬ k<(l.getD i []).length:=by
   intro c
   have:=congrArg List.length h
   rw [List.length_drop,List.length_nil] at this;omega
  rw [V4,jX (by omega:¬ (k:Int)<((l.getD i []).length:Int)),cond_false]
  simp [pr3]
 | n::r,fu+1,k,s,h,hf,hr=>by
  obtain ⟨c,d,j⟩:=C5n (0:Int) h
  have m:=hr n jU
  have f:=fun g=>F1f l i ag r fu (k+1) g j (by simp only [List.length_cons] at hf;omega) (fun n d=>hr n (List.mem_cons_of_mem _ d))
  have e:∀ b,A3t l i k (V4 l i ag fu) b=ag (b++(D6m n++pr3 [58] r)) (i+1):=by
   intro b
   unfold A3t;rw [d]
   have a:=F9s m.1 b
   cases hb:decide ((0:Int)≤n) with
   | true=>rw [hb,cond_true] at a;rw [cond_true,a,f,if_neg opx];simp
   | false=>rw [hb,cond_false] at a;rw [cond_false,f,if_neg opx];rw [← List.append_assoc,← a]
  rw [V4,jQ (by omega:(k:Int)<((l.getD i []).length:Int)),cond_true]
  by_cases hk:k=0
  ·rw [jX (by omega:¬ (0:Int)<(k:Int)),cond_false,e,if_pos hk];simp [pr3]
  ·rw [jQ (by omega:(0:Int)<(k:Int)),cond_true,e,if_neg hk];simp [pr3]
theorem G2f (h:1≤r.length):pr3 [59] r=[59]++pr3 [] r:=by
 cases r with
 | nil=>simp at h
 | cons n r=>simp [pr3]
theorem F0w (l:List (List Int)):∀ (x:List (List Int)) (s:List UInt8) (i:Nat),x=l.drop i→(∀ r ∈ x,B9o r)→M4 l x s i=(s++pr2 (if i=0 then [] else [59]) x,0)
 | [],s,i,h,hr=>by simp [M4,pr2]
 | r::x,s,i,h,hr=>by
  obtain ⟨g,d,j⟩:=C5n ([]:List Int) h
  have c:=hr r jU
  have f:=fun e=>F0w l x e (i+1) j (fun r h=>hr r (List.mem_cons_of_mem _ h))
  have b:∀ a,A4y l i (M4 l x) a=(a++(pr3 [] r++pr2 [59] x),0):=by
   intro a
   unfold A4y
   rw [F1f l i _ r _ 0 a (by rw [d];rfl) (by rw [d];omega) c.2.2.2,if_pos Z,f,if_neg opx];simp
  rw [M4]
  by_cases hi:i=0
  ·rw [jX (by omega:¬ (0:Int)<(i:Int)),cond_false,b,if_pos hi];simp [pr2]
  ·rw [jQ (by omega:(0:Int)<(i:Int)),cond_true,b,if_neg hi];simp [pr2,G2f c.1]
theorem F2u (a:l.length≤16) (h:∀ r ∈ l,B9o r):A7n l=(pr2 [] l,0):=by
 unfold A7n
 rw [G2i a h]
 show M4 l l [] 0=_
 rw [F0w l l [] 0 rfl h,if_pos rfl,List.nil_append]
def F3e (l:jz):List UInt8:=([27,91]++pr2 [] (l.map Q8))++[109]
theorem E0y:∀ (l:jz) (out:List (List Int)) (t:Nat),A4m l out t=(out++l.map Q8,0)
 | [],out,t=>by simp [A4m]
 | a::l,out,t=>by simp only [A4m,B5];rw [E0y l];simp
theorem E1m (L:jz) (b:L.length≤16):∀ (l:jz) (t:Nat),(∀ a ∈ l,Told a)→A4q L l t=(L.map Q8,0)
 | [],t,h=>by
  simp only [A4q]
  rw [jX (by omega:¬ (16:Int)<(L.length:Int)),cond_false,E0y,List.nil_append]
 | a::l,t,h=>by
  simp only [A4q]
  rw [(h a jU).chk]
  exact E1m L b l (t+1) (fun a c=>h a (List.mem_cons_of_mem _ c))
theorem D7h (L:jz) (b:L.length≤16):∀ (l:jz) (out:List (List Int)) (t:Nat),(∀ a ∈ l,Told a)→A0z L l out t=(out++l.map Q8,0)
 | [],out,t,h=>by
  simp only [A0z]
  rw [jX (by omega:¬ (16:Int)<(L.length:Int)),cond_false];simp
 | a::l,out,t,h=>by
  simp only [A0z]
  rw [(h a jU).rchk]
  simp only [B5]
  rw [← (h a jU).same]
  show A0z L l (out++[Q8 a]) (t+1)=_
  rw [D7h L b l _ (t+1) (fun a c=>h a (List.mem_cons_of_mem _ c))];simp
theorem E9z {l:jz} (h:∀ a ∈ l,Told a):∀ r ∈ l.map Q8,B9o r:=by
 intro r hr
 obtain ⟨a,b,rfl⟩:=List.mem_map.1 hr
 exact (h a b).row
theorem F8v {l:jz} (b:l.length≤16) (h:∀ a ∈ l,Told a):A8p l=F3e l:=by
 unfold A8p B7k
 rw [E1m l b l 0 h]
 show ([27,91]++(V9 (l.map Q8)).1)++[109]=_
 rw [E7c (by rw [List.length_map];exact b) (E9z h)];rfl
theorem F3z {l:jz} (b:l.length≤16) (h:∀ a ∈ l,Told a):A6l l=F3e l:=by
 unfold A6l B2z
 rw [D7h l b l [] 0 h,List.nil_append]
 show ([27,91]++(A7n (l.map Q8)).1)++[109]=_
 rw [F2u (by rw [List.length_map];exact b) (E9z h)];rfl
theorem F5o {s:Sty} (h:G2 s=0):0≤s.under∧s.under≤5∧I2 s.fore=0∧I2 s.back=0∧I2 s.line=0:=by
 unfold G2 at h
 generalize hc:(((!decide ((cH .andNot .i64 s.attr 255)=0))||(decide (s.under<0)))||(decide ((5:Int)<s.under)))=c at h
 cases c with
 | true=>rw [cond_true] at h;omega
 | false =>
  simp only [Bool.or_eq_false_iff,decide_eq_false_iff_not] at hc
  rw [cond_false] at h
  by_cases h1:I2 s.fore=0
  ·rw [jQ h1] at h
   by_cases h2:I2 s.back=0
   ·rw [jQ h2] at h
    by_cases h3:I2 s.line=0
    ·exact ⟨by omega,by omega,h1,h2,h3⟩
    ·rw [jX h3] at h;exact absurd h h3
   ·rw [jX h2] at h;exact absurd h h2
  ·rw [jX h1] at h;exact absurd h h1
theorem E7d (f t:Sty) (h:G2 t=0):∀ a ∈ chg f t,Told a:=by
 obtain ⟨g,i,d,hb,e⟩:=F5o h
 intro a c
 unfold chg E5w sets B3t at c
 rw [D6p] at c
 simp only [List.mem_append,List.mem_flatMap,List.mem_map,List.mem_range] at c
 rcases c with h | ⟨b,⟨j,hj,rfl⟩,h⟩ | ⟨b,⟨j,hj,rfl⟩,h⟩ | h | h | h | h
 ·rw [B0l h];exact F2j
 ·by_cases h2:2≤j
  ·rw [B0l h];exact F6o j hj h2
  ·rw [E2j f t j opx] at h;cases h
 ·rw [B0l h];exact F4d j hj
 ·rw [B0l h];exact E8c _ g i
 ·rw [B0l h];exact E2r 4 opx _ d
 ·rw [B0l h];exact E2r 5 opx _ hb
 ·rw [B0l h];exact E2r 6 opx _ e
def anw (t:Sty):jz:=kA 0 0::chg ZJ t
theorem F6d (t:Sty) (h:G2 t=0):∀ a ∈ anw t,Told a:=by
 intro a b
 rcases List.mem_cons.1 b with rfl | b
 ·exact E8j
 ·exact E7d _ _ h a b
theorem F7r (t:Sty):∀ a ∈ anw t,C3w a:=by
 intro a b
 rcases List.mem_cons.1 b with rfl | b
 ·exact ⟨rfl,rfl⟩
 ·exact D4f _ _ a b
theorem F8q (t:Sty):(anw t).length≤14:=by have:=E0o ZJ t;unfold anw;simp only [List.length_cons];omega
def aR (s:Sty):Prop:=-9223372036854775808≤s.attr∧s.attr≤9223372036854775807
theorem G0w (t:Sty):A7v t=anw t:=by rw [B9z,E9y];rfl
theorem F2a (f t:Sty):A1s f t=chg f t:=by rw [B0k,E9y]
end
end Go.Proofs.YtmldjljkeigpnaaGreatDoor
namespace Go.Proofs.YtmldjljkeigpnaaGreatDoor
open Go Go.Fen
section
variable {a:Act} {k:Nat} {l:jz} {m n:Int}
theorem G0d {r:List Int} (b:1≤r.length) (c:r.length≤6) (a:∀ n ∈ r,-1≤n∧n≤9999):A0m r=false:=by grind[A0m,O3,X9,D7p]
theorem E1j (d:-1≤n∧n≤9999) (a:-1≤m∧m≤9999):V9 [[n],[m]]=(pr2 [] [[n],[m]],0):=by
 have b:A3k [[n],[m]]=0:=by
  simp_all[F6,G0d,A3k,A9x,H4,L5]
 unfold V9
 rw [b]
 show S3 (Z8 (W4 _)) []=_
 rw [D4k]
 show ([]++B5q (J5 [[n],[m]] [[n],[m]] 0),(0:Int))=_
 rw [E9f [[n],[m]] [[n],[m]] 0 rfl,if_pos rfl,List.nil_append]
theorem E0a (a:0≤n∧n≤9999):V9 [[n]]=(Lib.itoa n,0):=by
 rw [E7c (l:=[[n]]) oom (by intro r hr;rw [List.mem_singleton.1 hr];exact ⟨by simp,by simp,by grind,by grind⟩)]
 grind[D6m,pr2,pr3]
theorem D7c:(V9 []).1=[]:=by rfl
theorem D7j (a:0≤n):D6m n=Lib.itoa n:=by grind[D6m]
theorem F6a (a:0≤n):S0 (n.toNat+1) n=Lib.itoa n:=by
 obtain ⟨m,rfl⟩:∃ m:Nat,n=m:=⟨n.toNat,by omega⟩
 simp[Lib.itoa_nonneg,C5b]
theorem C5i (k:Int) (a:0≤n):A1d n k=if n=k then [] else Lib.itoa n:=by simp_all[A1d,F6a]
theorem D4a (k:Int) (a:0≤n∧n≤9999):A7c k [n]=if n=k then [] else Lib.itoa n:=by
 unfold A7c
 rw [M7]
 by_cases h:n=k
 ·simp_all[M7,D7c]
 ·rw [jX h,if_neg h,cond_false,A1f]
  show M7 k [n] [] [[n]] 1=_
  rw [M7]
  show (V9 [[n]]).1=_
  rw [E0a a]
theorem F9w (k:Int) (b:0≤n∧n≤9999) (a:0≤m∧m≤9999):A7c k [n,m]=if m=k then (if n=k then [] else Lib.itoa n) else (if n=k then [] else Lib.itoa n)++[59]++Lib.itoa m:=by
 unfold A7c
 rw [M7]
 by_cases h:n=k
 ·rw [jQ h,if_pos h,cond_true,M7]
  by_cases h2:m=k
  ·simp_all[M7,D7c]
  ·rw [jX h2,if_neg h2,cond_false,A1f]
   show A1f [n,m] 1 (M7 k [n,m] []) 1 [[-1]]=_
   rw [A1f]
   show M7 k [n,m] [] [[-1],[m]] 2=_
   rw [M7]
   show (V9 [[-1],[m]]).1=_
   rw [E1j opx opx]
   grind[pr2,pr3,D6m]
 ·rw [jX h,if_neg h,cond_false,A1f]
  show M7 k [n,m] [m] [[n]] 1=_
  rw [M7]
  by_cases h2:m=k
  ·rw [jQ h2,if_pos h2,cond_true,M7]
   show (V9 [[n]]).1=_
   rw [E0a b]
  ·rw [jX h2,if_neg h2,cond_false,A1f]
   show M7 k [n,m] [] [[n],[m]] 2=_
   rw [M7]
   show (V9 [[n],[m]]).1=_
   rw [E1j opx opx]
   grind[pr2,pr3,D7j]
theorem G2x (k:Int) (b:0≤n) (a:0≤m):B1r n m k=if m=k then (if n=k then [] else Lib.itoa n) else (if n=k then [] else Lib.itoa n)++[59]++Lib.itoa m:=by simp_all[B1r,C5i]
theorem F5l (a b n:Int):B3 (⟨a,b⟩:Spn) n=(decide (a≤n)&&decide (n≤b)):=rfl
def Gd (a:Act):Prop:=(C3w a∧Told a)∨(a.kind≠39∧k6 a∧A4n a=true)
theorem af {x y z:Bool} (b:x=true) (a:y=true) (c:z=true):(bif (((((!x)||(!y))||(!z))||(!true))||(!true)) then (200:Int) else 0)=0:=by grind
theorem F9d (h:k6 a) (d:a.kind≠39) (hr:A4n a=true):Y8 a=0:=by
 unfold A4n at hr
 rw [jX d,cond_false] at hr
 simp only [Bool.and_eq_true,decide_eq_true_eq] at hr
 obtain ⟨⟨e,g⟩,f⟩:=hr
 obtain ⟨b,-,-⟩:=h
 obtain ⟨k,n,m,c,t⟩:=a
 simp only at b g f d
 subst g f
 unfold B4u N8 A8d at e
 rcases b with b | b | b | b | b | b | b | b | b | b<;>subst b<;>simp only [Int.reduceEq,decide_true,decide_false,cond_true,cond_false,Bool.and_eq_true,decide_eq_true_eq] at e
 ·unfold Y8
  obtain ⟨e,rfl⟩:=e
  show (bif ((decide ((A6b n)<0))||(!(decide ((⟨1,n,0,ZU,[]⟩:Act)=B4l 1 n 0)))) then (200:Int) else 0)=0
  rw [E6h,jX opx,jQ (show (⟨1,n,0,ZU,[]⟩:Act)=B4l 1 n 0 from rfl)];rfl
 all_goals first|exact absurd Z d|(unfold Y8;simp only [B1u,B2b,Int.reduceEq,decide_true,decide_false,cond_true,cond_false,F5l];exact af Z (by simp only [Bool.and_eq_true,decide_eq_true_eq];omega) (by simp only [Bool.and_eq_true,decide_eq_true_eq];omega))
theorem G1w (h:k6 a) (d:a.kind≠39):B2a a=A3p a:=by
 obtain ⟨b,-,hb⟩:=h
 obtain ⟨k,n,m,c,t⟩:=a
 simp only at b hb d
 rcases b with b | b | b | b | b | b | b | b | b | b<;>subst b<;>simp only [Int.reduceEq,false_or] at hb
 ·show B6n n=B0j n
  exact F6i n
 ·rfl
 ·rfl
 ·rfl
 ·show A5e _=[27,91]++(B1r n m 1++[72])
  unfold A5e;simp only [B5]
  rw [F9w 1 opx opx,G2x 1 opx opx,List.append_assoc]
 ·show Y0 _ _=[27,91]++(A1d m 1++A6o [65,66,67,68] n)
  unfold Y0;simp only [B5]
  rw [D4a 1 opx,C5i 1 opx,List.append_assoc];rfl
 ·show G5 _ _ _=[27,91]++(A1d n 1++A6o [71,100,73,90,64,80,88,76,77,98] 0)
  unfold G5;simp only [B5]
  rw [D4a 1 opx,C5i 1 opx,List.append_assoc];rfl
 ·show G5 _ _ _=[27,91]++(A1d n 1++A6o [71,100,73,90,64,80,88,76,77,98] 6)
  unfold G5;simp only [B5]
  rw [D4a 1 opx,C5i 1 opx,List.append_assoc];rfl
 ·show G5 _ _ _=[27,91]++(A1d n 1++A6o [71,100,73,90,64,80,88,76,77,98] 9)
  unfold G5;simp only [B5]
  rw [D4a 1 opx,C5i 1 opx,List.append_assoc];rfl
 omega
theorem F6z (h:Gd a):Y8 a=0:=by
 rcases h with ⟨c,h⟩ | ⟨b,d,hr⟩
 ·unfold Y8
  rw [c.1,show decide ((39:Int)=1)=false from rfl,cond_false,show decide ((39:Int)=39)=true from rfl,cond_true]
  have e:(⟨39,a.n,a.m,a.color,a.text⟩:Act)=a:=by rw [← c.1]
  rw [e,h.chk];rfl
 grind[F9d]
theorem F7e (h:Gd a):A4n a=true:=by
 rcases h with ⟨b,h⟩ | ⟨c,d,hr⟩
 ·unfold A4n;rw [jQ b.1,cond_true,h.rchk];rfl
 omega
theorem F8z (h:Gd a) (b:a.kind≠39):B2a a=A3p a:=by
 rcases h with ⟨c,-⟩ | ⟨-,h,-⟩
 ·exact absurd c.1 b
 grind[G1w]
theorem F9l (h:Gd a) (b:a.kind=39):Told a:=by
 rcases h with ⟨-,h⟩ | ⟨h,-,-⟩
 all_goals omega
def A6u:Nat→jz→Nat
 | 0,_=>0
 | _+1,[]=>0
 | k+1,a::r=>if a.kind=39 then A6u k r+1 else 0
theorem D4d:∀ (k:Nat) (l:jz),A6u k l≤k∧A6u k l≤l.length
 | 0,l=>⟨Nat.le_refl _,Nat.zero_le _⟩
 | k+1,[]=>⟨Nat.zero_le _,Nat.le_refl _⟩
 | k+1,a::r=>by
  have:=D4d k r
  unfold A6u
  split
  ·simp only [List.length_cons];omega
  ·exact ⟨Nat.zero_le _,Nat.zero_le _⟩
theorem E4t:∀ (k:Nat) (l:jz),∀ x ∈ l.take (A6u k l),x.kind=39
 | 0,l=>by simp [A6u]
 | k+1,[]=>by simp
 | k+1,a::r=>by
  unfold A6u
  split
  ·rename_i h
   intro x b
   rw [List.take_succ_cons] at b
   rcases List.mem_cons.1 b with rfl | b
   ·exact h
   ·exact E4t k r x b
  ·simp
theorem C7c {n:Nat} (h:n<l.length):l.drop n=l.getD n ZZ::l.drop (n+1):=by simp_all
theorem F0l {n:Nat} (h:n<l.length) (a:(l.getD n ZZ).kind=39):A6u (k+1) (l.drop n)=A6u k (l.drop (n+1))+1:=by
 rw [C7c h];exact if_pos a
theorem E5a {n:Nat} (h:¬ (n<l.length∧0<k∧(l.getD n ZZ).kind=39)):A6u k (l.drop n)=0:=by
 cases k with
 | zero=>rfl
 | succ k =>
  by_cases h1:n<l.length
  ·rw [C7c h1];simp_all[A6u]
  ·rw [List.drop_eq_nil_of_le opx];rfl
def E7f:Nat→jz→List UInt8
 | 0,_=>[]
 | _+1,[]=>[]
 | fu+1,a::r=>if A6u 16 (a::r)=0 then A3p a++E7f fu r else F3e ((a::r).take (A6u 16 (a::r)))++E7f fu ((a::r).drop (A6u 16 (a::r)))
theorem olv {p:Prop} (h:p:=by rw [List.length_drop,List.length_cons];omega):p:=h
theorem D1a:∀ (fu b:Nat) (l:jz),l.length<fu→l.length<b→E7f fu l=E7f b l
 | 0,_,_,h,_=>by omega
 | _,0,_,_,h=>by omega
 | fu+1,b+1,[],_,_=>rfl
 | fu+1,b+1,a::r,h,h'=>by
  simp only [List.length_cons] at h h'
  unfold E7f
  split
  ·rw [D1a fu b r opx opx]
  ·rw [D1a fu b _ olv olv]
def enc (l:jz):List UInt8:=E7f (l.length+1) l
theorem F1n:enc []=[]:=rfl
theorem F0h {r:jz} (h:A6u 16 (a::r)=0):enc (a::r)=A3p a++enc r:=by simp_all[enc,E7f]
theorem F0s (h:A6u 16 l≠0):enc l=F3e (l.take (A6u 16 l))++enc (l.drop (A6u 16 l)):=by
 cases l with
 | nil=>exact absurd Z h
 | cons a r =>
  unfold enc
  rw [E7f,if_neg h,D1a (a::r).length (((a::r).drop (A6u 16 (a::r))).length+1) _ olv opx]
def A2c (l:jz):Prop:=∀ a ∈ l,Gd a
theorem A2c.drop (h:A2c l) (n:Nat):A2c (l.drop n):=fun a b=>h a (List.mem_of_mem_drop b)
theorem A2c.take (h:A2c l) (n:Nat):A2c (l.take n):=fun a b=>h a (List.mem_of_mem_take b)
theorem E7j (h:A2c l) (k:Nat):∀ a ∈ l.take (A6u k l),Told a:=fun a b=>F9l (h a (List.mem_of_mem_take b)) (E4t k l a b)
theorem F5m (h:A2c l):A8p (l.take (A6u 16 l))=F3e (l.take (A6u 16 l)) :=by grind[F8v,D4d,E7j]
theorem F3h (h:A2c l):A6l (l.take (A6u 16 l))=F3e (l.take (A6u 16 l)) :=by grind[F3z,D4d,E7j]
theorem eb5 (l:jz) (ag:List UInt8→Int→List UInt8×Int) (b:List UInt8) (i:Nat):∀ (fu j:Nat),l.length - (i+j)<fu→j≤16 →
  A4p l ag fu b (i:Int) ((i+j:Nat):Int)=if j+A6u (16 - j) (l.drop (i+j))=0 then ag (b++B2a (l.getD i ZZ)) ((i:Int)+1)
   else ag (b++A8p ((l.drop i).take (j+A6u (16 - j) (l.drop (i+j))))) ((i+(j+A6u (16 - j) (l.drop (i+j))):Nat):Int)
 | 0,j,h,_=>by omega
 | fu+1,j,h,hj=>by
  rw [A4p]
  by_cases hc:i+j<l.length∧0<16 - j∧(l.getD (i+j) ZZ).kind=39
  ·have e:(((decide (((i+j:Nat):Int)<(l.length:Int)))&&(decide (((i+j:Nat):Int)<((i:Int)+16))))&&(decide ((l.getD ((((i+j:Nat):Int)).toNat) ZZ).kind=39)))=true:=by
    grind
   rw [e,cond_true]
   have c:=eb5 l ag b i fu (j+1) opx opx
   have d:(((i+j:Nat):Int)+1)=((i+(j+1):Nat):Int):=by omega
   rw [d,c]
   obtain ⟨m,hm⟩:∃ m,16 - j=m+1:=⟨16 - j - 1,by omega⟩
   have a:A6u (16 - j) (l.drop (i+j))=A6u (16 - (j+1)) (l.drop (i+(j+1)))+1:=by
    rw [hm,F0l hc.1 hc.2.2,show 16 - (j+1)=m by omega];rfl
   rw [a,show j+1+A6u (16 - (j+1)) (l.drop (i+(j+1)))=j+(A6u (16 - (j+1)) (l.drop (i+(j+1)))+1) by omega]
  ·have e:(((decide (((i+j:Nat):Int)<(l.length:Int)))&&(decide (((i+j:Nat):Int)<((i:Int)+16))))&&(decide ((l.getD ((((i+j:Nat):Int)).toNat) ZZ).kind=39)))=false:=by
    grind
   rw [e,cond_false,E5a hc]
   by_cases h0:j=0
   ·grind
   ·rw [jX (by omega:¬ ((i+j:Nat):Int)=(i:Int)),cond_false,if_neg opx,Int.toNat_natCast,Int.toNat_natCast,show i+j - i=j by omega]
    unfold B5
    rw [show (((i+j:Nat):Int) - 1)+1=((i+(j+0):Nat):Int) by omega];rfl
theorem eb4 (l:jz) (a:A2c l):∀ (fu i:Nat) (b:List UInt8),l.length - i<fu→i≤l.length→A0j l fu b (i:Int)=(b++enc (l.drop i),0)
 | 0,i,b,h,_=>by omega
 | fu+1,i,b,h,hi=>by
  rw [A0j]
  by_cases hc:i<l.length
  ·rw [jQ (by omega:(i:Int)<(l.length:Int)),cond_true]
   have e:=eb5 l (A0j l fu) b i (((l.length:Int) - (i:Int)).toNat+1) 0 opx opx
   rw [show ((i+0:Nat):Int)=(i:Int) by omega] at e
   rw [e]
   simp only [Nat.zero_add,Nat.add_zero,Nat.sub_zero]
   have c:=C7c hc
   by_cases h0:A6u 16 (l.drop i)=0
   ·rw [if_pos h0,show (i:Int)+1=((i+1:Nat):Int) by omega,eb4 l a fu (i+1) _ opx opx]
    have g:B2a (l.getD i ZZ)=A3p (l.getD i ZZ):=F8z (a _ (by rw [gdE hc];exact List.getElem_mem hc)) (fun d=>by rw [c] at h0;unfold A6u at h0;rw [if_pos d] at h0;omega)
    rw [g,c,F0h (by rw [← c];exact h0),List.append_assoc]
   ·have f:=D4d 16 (l.drop i)
    rw [List.length_drop] at f
    rw [if_neg h0,eb4 l a fu _ _ opx opx,F5m (a.drop i),F0s h0,List.drop_drop,List.append_assoc]
  ·rw [jX (by omega:¬ (i:Int)<(l.length:Int)),cond_false,List.drop_eq_nil_of_le opx,F1n,List.append_nil]
theorem eb0 (L:jz):∀ (l:jz) (t:Nat),(∀ a ∈ l,Y8 a=0)→A1r L l t=A0j L (((L.length:Int) - 0).toNat+1) [] 0
 | [],t,_=>rfl
 | a::l,t,h=>by
  rw [A1r,h a jU]
  exact eb0 L l (t+1) (fun x b=>h x (List.mem_cons_of_mem _ b))
theorem ra5 (l:jz) (out:List UInt8) (ag:jz→List UInt8→List UInt8×Int):∀ (fu j:Nat),l.length - j<fu→j≤16 →
  B0m l out ag fu j=if j+A6u (16 - j) (l.drop j)=0 then ag (l.drop 1) (out++A3p (l.getD 0 ZZ))
   else ag (l.drop (j+A6u (16 - j) (l.drop j))) (out++A6l (l.take (j+A6u (16 - j) (l.drop j))))
 | 0,j,h,_=>by omega
 | fu+1,j,h,hj=>by
  rw [B0m]
  by_cases hc:j<l.length∧0<16 - j∧(l.getD j ZZ).kind=39
  ·have e:(((decide ((j:Int)<(l.length:Int)))&&(decide ((j:Int)<16)))&&(decide ((l.getD j ZZ).kind=39)))=true:=by
    grind
   rw [e,cond_true,ra5 l out ag fu (j+1) opx opx]
   obtain ⟨m,hm⟩:∃ m,16 - j=m+1:=⟨16 - j - 1,by omega⟩
   have a:A6u (16 - j) (l.drop j)=A6u (16 - (j+1)) (l.drop (j+1))+1:=by grind[F0l]
   rw [a,show j+1+A6u (16 - (j+1)) (l.drop (j+1))=j+(A6u (16 - (j+1)) (l.drop (j+1))+1) by omega]
  ·have e:(((decide ((j:Int)<(l.length:Int)))&&(decide ((j:Int)<16)))&&(decide ((l.getD j ZZ).kind=39)))=false:=by
    grind
   rw [e,cond_false,E5a hc]
   unfold B5
   grind
theorem ra4:∀ (fu:Nat) (l:jz) (out:List UInt8),A2c l→l.length<fu→A4e fu l out=(out++enc l,0)
 | 0,l,out,_,h=>by omega
 | fu+1,l,out,hg,h=>by
  rw [A4e]
  cases l with
  | nil=>simp[F1n]
  | cons a r =>
   have b:=ra5 (a::r) out (A4e fu) (((a::r).length - 0)+1) 0 opx opx
   simp only [Nat.zero_add,Nat.sub_zero,List.drop_zero] at b
   rw [jQ (by simp only [List.length_cons];omega:(0:Int)<((a::r).length:Int)),cond_true]
   refine b.trans ?_
   by_cases h0:A6u 16 (a::r)=0
   ·rw [if_pos h0,F0h h0]
    have:=ra4 fu r (out++A3p a) (hg.drop 1) (by simp only [List.length_cons] at h;omega)
    rw [List.append_assoc] at this
    exact this
   ·rw [if_neg h0,F3h hg,ra4 fu _ _ (hg.drop _) (by rw [List.length_drop];simp only [List.length_cons] at *;omega),F0s h0,List.append_assoc]
theorem ra0 (L:jz):∀ (l:jz) (t:Nat),(∀ a ∈ l,A4n a=true)→A7u L l t=A4e (L.length+1) L []
 | [],t,_=>rfl
 | a::l,t,h=>by
  rw [A7u,h a jU]
  exact ra0 L l (t+1) (fun x b=>h x (List.mem_cons_of_mem _ b))
theorem B4g (d:l.length≤131072) (b:A2c l):X2 l=(enc l,0):=by
 unfold X2
 rw [jX (by omega:¬ (131072:Int)<(l.length:Int)),cond_false,eb0 l l 0 (fun a c=>F6z (b a c))]
 have:=eb4 l b (((l.length:Int) - 0).toNat+1) 0 [] opx (Nat.zero_le _)
 grind
theorem D9x (d:l.length≤131072) (b:A2c l):A0g l=enc l:=by
 unfold A0g;simp only [B5]
 unfold C5a
 rw [jX (by omega:¬ (131072:Int)<(l.length:Int)),cond_false,ra0 l l 0 (fun a c=>F7e (b a c)),ra4 _ l [] b (Nat.lt_succ_self _),List.nil_append]
theorem E1g (b:l.length≤131072) (a:A2c l):C0z l=(((enc l).length:Int),0):=by grind[C0z,B5,B4g]
theorem B8i (b:l.length≤131072) (a:A2c l):I3 l=((enc l).length:Int):=by grind[I3,B5,D9x]
theorem A2c.app {u v:jz} (h:A2c u) (k:A2c v):A2c (u++v):=fun a b=>by
 rcases List.mem_append.1 b with b | b
 ·exact h a b
 ·exact k a b
theorem E0e (c:∀ a ∈ l,C3w a) (h:∀ a ∈ l,Told a):A2c l:=fun a b=>.inl ⟨c a b,h a b⟩
theorem C4z (f t:Sty) (i:G2 f=0) (g:G2 t=0):A8s f t=(H5 f t,0)∧A2c (H5 f t)∧(H5 f t).length≤14:=by
 have o:=E0o f t
 have d:=F8q t
 have c:=E0e (D4f f t) (E7d f t g)
 have b:=E0e (F7r t) (F6d t g)
 have c1:=E1g (l:=chg f t) opx c
 have c2:=E1g (l:=anw t) opx b
 have k:=B8i (l:=chg f t) opx c
 have h:=B8i (l:=anw t) opx b
 have m:A6h f t=(chg f t,0):=by
  simp_all[A6h,A9d]
 have n:B5r t=anw t:=by rw [C3q];rfl
 unfold A8s H5
 simp only [B5]
 rw [m,n,F2a,G0w]
 dsimp only
 rw [c1,c2,k,h]
 by_cases e:f=t
 ·rw [jQ e];exact ⟨rfl,(fun a j=>by cases j),Nat.zero_le _⟩
 grind
end
section
variable {c:Cel} {n:Int} {s:Sty}
theorem F1z (s:Sty):G2 s=0 ↔ ((cH .andNot .i64 s.attr 255)=0∧0≤s.under∧s.under≤5)∧I2 s.fore=0∧I2 s.back=0∧I2 s.line=0:=by
 unfold G2
 grind
theorem F5b {t:Sty} (a:G2 s=0) (b:G2 t=0):G2 {s with back:=t.back}=0:=by grind[F1z]
theorem E5e:G2 ZJ=0:=by rfl
def cOk (c:Cel):Prop:=G2 c.sty=0∧0≤P7 c.base∧(c.marks.a=0∨P7 c.marks.a=0)∧(c.marks.b=0∨P7 c.marks.b=0)∧(c.wide=0∨c.wide=1)
theorem G2b (a:aIn c) (h:A0w c=0) (d:c.wide≠2):cOk c:=by
 unfold A0w at h
 obtain ⟨b,h⟩:=E1p h ozw
 have f:A5u c=false:=by simp_all[A5u]
 rw [f,cond_false] at h
 obtain ⟨i,h⟩:=E1p h ozw
 obtain ⟨g,h⟩:=E1p h ozw
 have e:=E6x c.sty a.1 a.2
 simp only [Bool.not_eq_false',decide_eq_true_eq] at b
 refine ⟨by omega,?_⟩
 grind
theorem D7t (h:0≤P7 n):Gd {ZZ with kind:=1,n:=n}:=by
 refine .inr ⟨by simp,⟨.inl rfl,Nat.zero_le _,.inl rfl⟩,?_⟩
 show ((((decide ((0:Int)≤(P7 n)))&&(decide ((0:Int)=0)))&&(decide (ZU=ZU)))&&(decide (([]:List UInt8)=([]:List UInt8))))=true
 grind
theorem G4p {k:Int} (a:k=30∨k=34) (h:1≤n∧n≤1000):Gd {ZZ with kind:=k,n:=n}:=by
 refine .inr ⟨by grind,F5z (k:=k) (m:=0) opx opx opx opx,?_⟩
 rcases a with rfl | rfl
 all_goals
  show ((((N8 n)&&decide ((0:Int)=0))&&decide (ZU=ZU))&&decide (([]:List UInt8)=[]))=true
  unfold N8 A8d
  grind
theorem G3y {m:Int} (h:1≤m∧m≤1000):Gd {ZZ with kind:=20,n:=2,m:=m}:=by
 refine .inr ⟨by simp,F5z (k:=20) opx opx opx opx,?_⟩
 show ((((A8d 2 0 3)&&(N8 m))&&decide (ZU=ZU))&&decide (([]:List UInt8)=[]))=true
 unfold N8 A8d
 grind
theorem D6x:A2c []:=fun a b=>by cases b
theorem A7a {a:Act} (h:Gd a):A2c [a]:=fun b hb=>by grind
theorem E0f (h:cOk c):A2c (W9 c)∧(W9 c).length≤3:=by
 refine ⟨?_,(B1b c).1⟩
 obtain ⟨-,hb,g,i,-⟩:=h
 have d:=A7a (D7t hb)
 have e:c.marks.a≠0→A2c [{ZZ with kind:=1,n:=c.marks.a}]:=fun h=>A7a (D7t opx)
 have f:c.marks.b≠0→A2c [{ZZ with kind:=1,n:=c.marks.b}]:=fun h=>A7a (D7t opx)
 unfold W9
 by_cases ha:c.marks.a=0
 ·rw [jQ ha]
  by_cases hb:c.marks.b=0
  ·grind
  ·rw [jX hb];exact d.app (f hb)
 ·rw [jX ha]
  by_cases hb:c.marks.b=0
  ·rw [jQ hb];exact d.app (e ha)
  ·rw [jX hb];exact (d.app (e ha)).app (f hb)
theorem E1a (l:jz) (c:Cel):A4d l c=l++W9 c:=by grind[A4d,W9]
def rp:Nat→Cel→jz
 | 0,_=>[]
 | n+1,c=>W9 c++rp n c
theorem E9w (h:cOk c):∀ n,A2c (rp n c)∧(rp n c).length≤3 * n
 | 0=>⟨D6x,Nat.le_refl _⟩
 | n+1=>by
  have a:=E9w h n
  have b:=E0f h
  refine ⟨b.1.app a.1,?_⟩
  have:=b.2;have:=a.2
  show (W9 c++rp n c).length≤_
  rw [List.length_append];omega
theorem D7g (r:Prn) (N:Nat) (a:r.many=(N:Int)):∀ (fu:Nat) (l:jz) (t:Nat),t≤N→N - t<fu→K2 r fu l t=(l++rp (N - t) r.sign,r.sign.sty,r.til,true)
 | 0,l,t,_,h=>by omega
 | fu+1,l,t,ht,h=>by
  rw [K2,a]
  by_cases hc:t<N
  ·rw [jQ (by omega:(t:Int)<(N:Int)),cond_true];simp only [B5]
   rw [E1a,D7g r N a fu _ (t+1) opx opx,show N - t=(N - (t+1))+1 by omega,List.append_assoc];rfl
  ·rw [jX (by omega:¬ (t:Int)<(N:Int)),show N - t=0 by omega]
   show (l,_,_,_)=(l++[],_,_,_);simp
theorem F3u (c:Cel) (N:Nat) (at_ to_:Int) (pen:Sty) (last:Bool) (s g:jz):∀ (fu:Nat) (p:jz) (i:Nat),i≤N→N - i<fu →
  X0 c (N:Int) at_ to_ pen last s g fu p i=X0 c (N:Int) at_ to_ pen last s g 1 (p++rp (N - i) c) N
 | 0,p,i,_,h=>by omega
 | fu+1,p,i,hi,h=>by
  by_cases hc:i<N
  ·rw [X0,jQ (by omega:(i:Int)<(N:Int)),cond_true];simp only [B5]
   rw [F3u c N at_ to_ pen last s g fu _ (i+1) opx opx,show N - i=(N - (i+1))+1 by omega,List.append_assoc];rfl
  ·obtain rfl:i=N:=by omega
   rw [Nat.sub_self]
   show _=X0 c (i:Int) at_ to_ pen last s g 1 (p++[]) i
   simp[X0]
def B2o (c:Cel):Bool:=((decide (c.wide=0))&&(decide (c.marks.a=0)))&&(decide (c.marks.b=0))
theorem F1q (c:Cel):B1n c=B2o c:=by
 unfold B1n B2o
 rw [Bool.and_assoc];congr 1
 rw [Bool.eq_iff_iff];simp only [Bool.and_eq_true,decide_eq_true_eq]
 obtain ⟨b,⟨m,n⟩,w,s⟩:=c
 constructor
 ·intro h;have:=congrArg Ar2.a h;have:=congrArg Ar2.b h;exact ⟨by assumption,by assumption⟩
 ·rintro ⟨e,d⟩;simp only at e d;subst e d;rfl
theorem F6l (c:Cel) (N:Nat) (at_ to_:Int) (pen:Sty) (last:Bool):A4t c (N:Int) at_ to_ pen last =
  (⟨H5 pen c.sty++rp N c,(⟨c.sty,to_⟩:OutC)⟩:RwD OutC Act)::((bif B2o c&&decide ((1:Int)<(N:Int)) then [(⟨(H5 pen c.sty++W9 c)++[{ZZ with kind:=34,n:=(N:Int) - 1}],(⟨c.sty,to_⟩:OutC)⟩:RwD OutC Act)] else []) ++
   (bif (B2o c&&decide (c.base=32))&&decide (c.sty={ZJ with back:=c.sty.back}) then [(⟨bif last then H5 pen {pen with back:=c.sty.back}++[{ZZ with kind:=30,n:=(N:Int)}] else (H5 pen {pen with back:=c.sty.back}++[{ZZ with kind:=30,n:=(N:Int)}])++[{ZZ with kind:=20,n:=2,m:=(N:Int)}],(⟨{pen with back:=c.sty.back},bif last then at_ else to_⟩:OutC)⟩:RwD OutC Act)] else [])):=by
 unfold A4t;simp only [B5]
 rw [F3u c N at_ to_ pen last _ _ _ _ 0 (Nat.zero_le _) opx,X0,jX (by omega:¬ (N:Int)<(N:Int)),cond_false,Nat.sub_zero]
 show (bif (B2o c&&decide ((1:Int)<(N:Int))) then A1u c N at_ to_ pen last _ else A1u c N at_ to_ pen last _)=_
 unfold A1u;simp only [B5]
 show (bif (B2o c&&decide ((1:Int)<(N:Int))) then (bif ((B2o c&&decide (c.base=32))&&decide (c.sty={ZJ with back:=c.sty.back})) then _ else _) else (bif ((B2o c&&decide (c.base=32))&&decide (c.sty={ZJ with back:=c.sty.back})) then _ else _))=_
 grind
theorem G5w (outL:jz) (X:Int) (ag:Int→OutC→jz→(OutC×jz)) (a:RwD OutC Act):N5 outL X ag (([a].length - 1)+1) [a] 0 1=ag X ⟨a.b.pen,a.b.ends⟩ (([]++outL)++a.l):=rfl
theorem F8b (outL:jz) (X:Int) (ag:Int→OutC→jz→(OutC×jz)) (a c:RwD OutC Act):N5 outL X ag (([a,c].length - 1)+1) [a,c] 0 1 =
  bif decide (I3 c.l<I3 a.l) then ag X ⟨c.b.pen,c.b.ends⟩ (([]++outL)++c.l) else ag X ⟨a.b.pen,a.b.ends⟩ (([]++outL)++a.l):=by
 rfl
theorem F8r (outL:jz) (X:Int) (ag:Int→OutC→jz→(OutC×jz)) (c d a:RwD OutC Act):N5 outL X ag (([c,d,a].length - 1)+1) [c,d,a] 0 1 =
  bif decide (I3 d.l<I3 c.l) then (bif decide (I3 a.l<I3 d.l) then ag X ⟨a.b.pen,a.b.ends⟩ (([]++outL)++a.l) else ag X ⟨d.b.pen,d.b.ends⟩ (([]++outL)++d.l))
   else (bif decide (I3 a.l<I3 c.l) then ag X ⟨a.b.pen,a.b.ends⟩ (([]++outL)++a.l) else ag X ⟨c.b.pen,c.b.ends⟩ (([]++outL)++c.l)):=by
 rfl
theorem E4a (s t:Sty) (pl:jz) (pat:Int) (b:G2 s=0) (a:G2 t=0):F2 s pl pat t=H5 s t:=by grind[F2,B5,C4z]
theorem E9m {a b:Int}:decide (a≤b)=!decide (b<a):=by grind
theorem F5g {N:Nat} (e:G2 s=0) (a:cOk c) (hN:1≤N∧N≤100) (pl:jz) (pat at_ to_:Int) (last:Bool) :
  ∃ f bs g,U7 s pl pat ⟨c,(N:Int),at_,to_⟩ last=(pl++f,bs,g)∧G2 bs=0 ∧
   ∀ outL X ag,N5 outL X ag (((A4t c (N:Int) at_ to_ s last).length - 1)+1) (A4t c (N:Int) at_ to_ s last) 0 1=ag X ⟨bs,g⟩ (outL++f):=by
 have hb:G2 {s with back:=c.sty.back}=0:=F5b e a.1
 have i:=C4z s c.sty e a.1
 have z:=C4z s {s with back:=c.sty.back} e hb
 have v:=E9w a N
 have ks:=E0f a
 have q:A2c (H5 s c.sty++rp N c):=i.2.1.app v.1
 have r:(H5 s c.sty++rp N c).length≤131072:=by grind
 have u:A2c (bif last then H5 s {s with back:=c.sty.back}++[{ZZ with kind:=30,n:=(N:Int)}] else (H5 s {s with back:=c.sty.back}++[{ZZ with kind:=30,n:=(N:Int)}])++[{ZZ with kind:=20,n:=2,m:=(N:Int)}]):=by
  have h:=z.2.1.app (A7a (G4p (k:=30) (n:=(N:Int)) (.inl Z) opx))
  cases last
  ·exact h.app (A7a (G3y opx))
  ·exact h
 have j:(bif last then H5 s {s with back:=c.sty.back}++[{ZZ with kind:=30,n:=(N:Int)}] else (H5 s {s with back:=c.sty.back}++[{ZZ with kind:=30,n:=(N:Int)}])++[{ZZ with kind:=20,n:=2,m:=(N:Int)}]).length≤131072:=by
  grind
 have e1:R6 s pl pat ⟨c,(N:Int),at_,to_⟩ last=(H5 s c.sty++rp N c,c.sty,to_,true):=by
  unfold R6;simp only [B5]
  rw [E4a s c.sty pl pat e a.1,D7g ⟨c,(N:Int),at_,to_⟩ N rfl _ _ 0 (Nat.zero_le _) (by simp),Nat.sub_zero]
 have w:Q5 s pl pat ⟨c,(N:Int),at_,to_⟩ last=bif (B2o c&&decide ((1:Int)<(N:Int))) then ((H5 s c.sty++W9 c)++[{ZZ with kind:=34,n:=(N:Int) - 1}],c.sty,to_,true) else (([]:jz),ZJ,0,false):=by
  unfold Q5;simp only [B5]
  rw [E4a s c.sty pl pat e a.1,E1a,F1q,A5r opx]
  show (bif ((decide ((N:Int)<2))||(!(B2o c))) then _ else _)=_
  rw [show decide ((N:Int)<2)=!decide ((1:Int)<(N:Int)) by grind]
  cases B2o c<;>cases decide ((1:Int)<(N:Int))<;>rfl
 have e3:R8 s pl pat ⟨c,(N:Int),at_,to_⟩ last=bif ((B2o c&&decide (c.base=32))&&decide (c.sty={ZJ with back:=c.sty.back})) then ((bif last then H5 s {s with back:=c.sty.back}++[{ZZ with kind:=30,n:=(N:Int)}] else (H5 s {s with back:=c.sty.back}++[{ZZ with kind:=30,n:=(N:Int)}])++[{ZZ with kind:=20,n:=2,m:=(N:Int)}]),{s with back:=c.sty.back},(bif last then at_ else to_),true) else (([]:jz),ZJ,0,false):=by
  unfold R8 A0b
  rw [E4a s _ pl pat e hb,F1q]
  show (bif (((!(B2o c))||(!decide (c.base=32)))||(!(decide (c.sty={ZJ with back:=c.sty.back})))) then _ else _)=_
  cases B2o c<;>cases decide (c.base=32)<;>cases decide (c.sty={ZJ with back:=c.sty.back})<;>cases last<;>rfl
 rw [F6l]
 unfold U7;simp only [B5]
 rw [e1];dsimp only
 rw [B4g r q]
 show ∃ f bs g,N2 s pl pat ⟨c,(N:Int),at_,to_⟩ last ((enc (H5 s c.sty++rp N c)).length:Int) (H5 s c.sty++rp N c) c.sty to_=(pl++f,bs,g)∧_
 unfold N2 O2 O1;simp only [B5]
 rw [w,e3]
 have c1:=B8i r q
 have d:=B8i j u
 have z1:∀ l:List UInt8,decide ((0:Int)≤(l.length:Int))=true:=fun l=>jQ opx
 have b:=a.1
 generalize H5 s c.sty++rp N c=W1 at *
 generalize (bif last then H5 s {s with back:=c.sty.back}++[{ZZ with kind:=30,n:=(N:Int)}] else (H5 s {s with back:=c.sty.back}++[{ZZ with kind:=30,n:=(N:Int)}])++[{ZZ with kind:=20,n:=2,m:=(N:Int)}])=W3 at *
 have o:=B4g j u
 cases h2:(B2o c&&decide ((1:Int)<(N:Int))) with
 | false =>
  simp only [cond_false,cond_true,Bool.not_false,Bool.true_or,List.nil_append]
  cases h3:((B2o c&&decide (c.base=32))&&decide (c.sty={ZJ with back:=c.sty.back})) with
  | false =>
   simp only [cond_false,cond_true,Bool.not_false,Bool.true_or]
   exact ⟨_,_,_,rfl,b,fun outL X ag=>G5w outL X ag _⟩
  | true =>
   simp only [cond_true,o,decide_true,Bool.not_true,Bool.false_or,z1,Bool.true_and,E9m]
   cases hd:decide (((enc W3).length:Int)<((enc W1).length:Int)) with
   | true=>exact ⟨_,_,_,rfl,hb,fun outL X ag=>(F8b outL X ag _ _).trans (by dsimp only;rw [c1,d,hd];rfl)⟩
   | false=>exact ⟨_,_,_,rfl,b,fun outL X ag=>(F8b outL X ag _ _).trans (by dsimp only;rw [c1,d,hd];rfl)⟩
 | true =>
  have x:(1:Int)<(N:Int):=by simp only [Bool.and_eq_true,decide_eq_true_eq] at h2;exact h2.2
  have p:A2c ((H5 s c.sty++W9 c)++[{ZZ with kind:=34,n:=(N:Int) - 1}]):=(i.2.1.app ks.1).app (A7a (G4p (.inr Z) opx))
  have t:((H5 s c.sty++W9 c)++[{ZZ with kind:=34,n:=(N:Int) - 1}]).length≤131072:=by simp only [List.length_append,List.length_cons,List.length_nil];omega
  have c2:=B8i t p
  have y:=B4g t p
  generalize (H5 s c.sty++W9 c)++[{ZZ with kind:=34,n:=(N:Int) - 1}]=W2 at *
  simp only [cond_true,y,decide_true,Bool.not_true,Bool.false_or,z1,Bool.true_and,E9m]
  cases h3:((B2o c&&decide (c.base=32))&&decide (c.sty={ZJ with back:=c.sty.back})) with
  | false =>
   simp only [cond_false,cond_true,Bool.not_false,Bool.true_or]
   cases hd:decide (((enc W2).length:Int)<((enc W1).length:Int)) with
   | true=>exact ⟨_,_,_,rfl,b,fun outL X ag=>(F8b outL X ag _ _).trans (by dsimp only;rw [c1,c2,hd];rfl)⟩
   | false=>exact ⟨_,_,_,rfl,b,fun outL X ag=>(F8b outL X ag _ _).trans (by dsimp only;rw [c1,c2,hd];rfl)⟩
  | true =>
   simp only [cond_true,o,decide_true,Bool.not_true,Bool.false_or,z1,Bool.true_and,E9m]
   cases hd:decide (((enc W2).length:Int)<((enc W1).length:Int)) with
   | true =>
    simp only [Bool.not_true,cond_false]
    cases he:decide (((enc W3).length:Int)<((enc W2).length:Int)) with
    | true=>exact ⟨_,_,_,rfl,hb,fun outL X ag=>(F8r outL X ag _ _ _).trans (by dsimp only;rw [c1,c2,d,hd,he];rfl)⟩
    | false=>exact ⟨_,_,_,rfl,b,fun outL X ag=>(F8r outL X ag _ _ _).trans (by dsimp only;rw [c1,c2,d,hd,he];rfl)⟩
   | false =>
    simp only [Bool.not_false,cond_true]
    cases he:decide (((enc W3).length:Int)<((enc W1).length:Int)) with
    | true=>exact ⟨_,_,_,rfl,hb,fun outL X ag=>(F8r outL X ag _ _ _).trans (by dsimp only;rw [c1,c2,d,hd,he];rfl)⟩
    | false=>exact ⟨_,_,_,rfl,b,fun outL X ag=>(F8r outL X ag _ _ _).trans (by dsimp only;rw [c1,c2,d,hd,he];rfl)⟩
end
end Go.Proofs.YtmldjljkeigpnaaGreatDoor
namespace Go.Proofs.YtmldjljkeigpnaaGreatDoor
section
open Go Go.Fen open Go.IntKind (i64)
variable {from_:Int}
theorem F1o (r:jk):∀ (l:jk) (k:Nat),X4 r l k=0→∀ x ∈ l,A0w x=0
 | [],_,_=>fun x c=>by cases c
 | x::l,k,h=>by
  rw [X4] at h
  obtain ⟨b,h⟩:=E1p h ozw
  obtain ⟨-,h⟩:=E1p h ozw
  intro y a
  rcases List.mem_cons.1 a with rfl | a
  ·simpa using b
  ·exact F1o r l (k+1) h y a
structure RowP (l:jk):Prop where
 len:2≤l.length∧l.length≤80
 two:∀ i,i<l.length→((l.getD i ZV).wide=2 ↔ (0<i∧(l.getD (i - 1) ZV).wide=1))
 ok:∀ i,i<l.length→(l.getD i ZV).wide≠2→cOk (l.getD i ZV)
theorem F9p {l:jk} (m:∀ c ∈ l,aIn c) (h:U5 l false=true):RowP l:=by
 unfold U5 at h
 have h:=of_decide_eq_true h
 unfold B1y at h
 obtain ⟨g,h⟩:=E1p h ozw
 simp only [Bool.or_eq_false_iff,decide_eq_false_iff_not] at g
 have d:∀ i,i<l.length→l.getD i ZV ∈ l:=fun i b=>by
  grind
 refine ⟨by omega,fun i b=>?_,fun i b f=>G2b (m _ (d i b)) (F1o l l 0 h _ (d i b)) f⟩
 have a:=(D4g l l 0 h i b).1
 grind
theorem D1b {x:Int} (h:-1000≤x∧x≤1000):i64.wrap x=x:=A5r opx
section
variable {l:jk} {to_:Int}
theorem D7f (hr:RowP l) (g:to_≤l.length) (s:0≤from_∧from_<to_) (f:(l.getD from_.toNat ZV).wide≠2)
  (d:∀ i:Int,from_≤i→i<to_→(l.getD i.toNat ZV).wide=1→i+1<to_) (ag:Int→List Prn) (out:OutC) (outL:jz) (a:Int→OutC→jz→(OutC×jz)) :
  ∀ (c b n:Nat) (at_:Int),(to_ - at_).toNat<c→(to_ - at_).toNat<b→(from_≤at_∧at_≤to_∧(n:Int)≤at_ - from_∧(at_=from_∨1≤n))→(at_<to_→(l.getD at_.toNat ZV).wide≠2) →
  ∃ (N:Nat) (A:Int),(from_<A∧A≤to_)∧(1≤N∧N≤100)∧(A<to_→(l.getD A.toNat ZV).wide≠2) ∧
   P5 to_ l ag c ⟨l.getD from_.toNat ZV,(n:Int),from_,at_⟩=⟨l.getD from_.toNat ZV,(N:Int),from_,A⟩::ag A ∧
   A0p l to_ from_ out outL a b n at_=N5 outL A a (((A4t (l.getD from_.toNat ZV) (N:Int) from_ A out.pen (decide (A=to_))).length - 1)+1) (A4t (l.getD from_.toNat ZV) (N:Int) from_ A out.pen (decide (A=to_))) 0 1
 | 0,_,_,_,h,_,_,_=>by omega
 | _+1,0,_,_,_,h,_,_=>by omega
 | c+1,b+1,n,at_,h1,j,hi,hw=>by
  have t:=hr.len
  rw [P5,A0p]
  dsimp only
  by_cases hc:at_<to_∧l.getD at_.toNat ZV=l.getD from_.toNat ZV
  ·rw [jQ hc.1,jQ hc.2]
   have p:=hr.ok from_.toNat opx f
   have q:=p.2.2.2.2
   have r:=hr.two (at_.toNat+1)
   rw [Nat.add_sub_cancel] at r
   by_cases w1:(l.getD from_.toNat ZV).wide=1
   ·have hat:=d at_ opx hc.1 (by rw [hc.2];exact w1)
    rw [jQ w1,w1]
    show ∃ N A,_∧_∧_∧P5 to_ l ag c ⟨l.getD from_.toNat ZV,i64.wrap ((n:Int)+1),from_,i64.wrap (at_+i64.wrap (1+1))⟩=_∧A0p l to_ from_ out outL a b (n+1) ((at_+1)+1)=_
    rw [D1b (x:=(n:Int)+1) opx,D1b (x:=1+1) opx,D1b (x:=at_+(1+1)) opx,show at_+(1+1)=(at_+1)+1 by omega,show (n:Int)+1=((n+1:Nat):Int) by omega]
    refine D7f hr g s f d ag out outL a c b (n+1) ((at_+1)+1) opx opx opx (fun k j=>?_)
    have o:=(hr.two (at_+1+1).toNat opx).1 j
    have w:=(r opx).2 ⟨by omega,by rw [hc.2];exact w1⟩
    rw [show (at_+1+1).toNat - 1=at_.toNat+1 by omega,w] at o
    omega
   ·have v:(l.getD from_.toNat ZV).wide=0:=by omega
    rw [jX w1,v]
    show ∃ N A,_∧_∧_∧P5 to_ l ag c ⟨l.getD from_.toNat ZV,i64.wrap ((n:Int)+1),from_,i64.wrap (at_+i64.wrap (1+0))⟩=_∧A0p l to_ from_ out outL a b (n+1) (at_+1)=_
    rw [D1b (x:=(n:Int)+1) opx,D1b (x:=1+0) opx,D1b (x:=at_+(1+0)) opx,show at_+(1+0)=at_+1 by omega,show (n:Int)+1=((n+1:Nat):Int) by omega]
    refine D7f hr g s f d ag out outL a c b (n+1) (at_+1) opx opx opx (fun k j=>?_)
    have o:=(hr.two (at_+1).toNat opx).1 j
    rw [show (at_+1).toNat - 1=at_.toNat by omega,hc.2] at o
    omega
  ·have m:((decide (at_<to_))&&(decide ((l.getD at_.toNat ZV)=(l.getD from_.toNat ZV))))=false:=by
    simp only [Bool.and_eq_false_iff,decide_eq_false_iff_not]
    by_cases h:at_<to_
    ·exact .inr fun e=>hc ⟨h,e⟩
    ·exact .inl h
   rw [m]
   have u:at_≠from_:=fun e=>hc ⟨by omega,by rw [e]⟩
   exact ⟨n,at_,by omega,by omega,hw,rfl,rfl⟩
theorem D9z (hr:RowP l) (c:to_≤l.length):∀ (b a:Nat) (from_:Int) (pen:Sty) (outL:jz) (ends:Int),(to_ - from_).toNat<b→(to_ - from_).toNat<a→(0≤from_∧from_≤to_)→(from_<to_→(l.getD from_.toNat ZV).wide≠2) →
  (∀ i:Int,from_≤i→i<to_→(l.getD i.toNat ZV).wide=1→i+1<to_)→G2 pen=0 →
  ∃ (L:jz) (o:OutC),S7 l to_ b from_ ⟨pen,ends⟩ outL=(o,L)∧A0o to_ (R3 to_ l a from_) pen outL ends=(L,o.pen,o.ends,0)∧G2 o.pen=0
 | 0,_,_,_,_,_,h,_,_,_,_,_=>by omega
 | _+1,0,_,_,_,_,_,h,_,_,_,_=>by omega
 | b+1,a+1,from_,pen,outL,ends,h1,h2,hf,hw,hwd,hs=>by
  rw [S7,R3]
  by_cases hc:from_<to_
  ·rw [jQ hc];simp only [cond_true]
   have f:=hr.len
   obtain ⟨N,A,r,m,d,e,n⟩:=D7f hr c ⟨hf.1,hc⟩ (hw hc) hwd (R3 to_ l a) ⟨pen,ends⟩ outL (S7 l to_ b) ((to_ - from_).toNat+1) ((to_ - from_).toNat+1) 0 from_ opx opx opx hw
   have e:P5 to_ l (R3 to_ l a) ((to_ - ({Prn.zero with sign:=(l.getD ((from_).toNat) ZV),at_:=from_,til:=from_}).til).toNat+1) ({Prn.zero with sign:=(l.getD ((from_).toNat) ZV),at_:=from_,til:=from_})=_:=e
   rw [e,n]
   obtain ⟨j,bs,p,g,k,q⟩:=F5g hs (hr.ok from_.toNat opx (hw hc)) m outL ends from_ A (decide (A=to_))
   rw [q outL A (S7 l to_ b),A0o];simp only [B5]
   rw [g]
   exact D9z hr c b a A bs (outL++j) p opx opx opx d (fun i h=>hwd i opx) k
  ·rw [jX hc]
   exact ⟨outL,⟨pen,ends⟩,rfl,rfl,hs⟩
theorem F6v (hr:RowP l) (b:W7 l false=0) {pen:Sty} (f:0≤from_∧from_<to_∧to_≤l.length) (d:(l.getD from_.toNat ZV).wide≠2) (c:to_<l.length→(l.getD to_.toNat ZV).wide≠2)
  (a:∀ i:Int,from_≤i→i<to_→(l.getD i.toNat ZV).wide=1→i+1<to_) (e:G2 pen=0) :
  D9 l from_ to_ pen=((C4 l from_ to_ pen).2,(C4 l from_ to_ pen).1.pen,(C4 l from_ to_ pen).1.ends,0)∧G2 (C4 l from_ to_ pen).1.pen=0:=by
 obtain ⟨L,o,g,m,j⟩:=D9z hr f.2.2 ((to_ - from_).toNat+1) ((to_ - from_).toNat+1) from_ pen [] to_ opx opx opx (fun _=>d) a e
 have k:C4 l from_ to_ pen=(o,L):=g
 rw [k]
 refine ⟨?_,j⟩
 unfold D9 A3c
 rw [jQ b,cond_true,e]
 rw [show (((((decide (from_<0))||(decide (to_<from_)))||(decide ((l.length:Int)<to_)))||((decide (from_<(l.length:Int)))&&(decide ((l.getD ((from_).toNat) ZV).wide=2))))||((decide (to_<(l.length:Int)))&&(decide ((l.getD ((to_).toNat) ZV).wide=2))))=false by
  grind]
 exact m
end
end
end Go.Proofs.YtmldjljkeigpnaaGreatDoor
namespace Go.Proofs.YtmldjljkeigpnaaGreatDoor
open Go Go.Fen
section
variable {a:Act} {c:Int} {e:jz} {f:Cur} {m n:Int} {p:Pth} {r:Int} {t:Plc}
theorem E6d (c:Int):∀ (fu:Nat) (t:List Bool) (k:Nat),(B1s c fu t k).2=0
 | 0,_,_=>rfl
 | fu+1,t,k=>by
  rw [B1s]
  cases decide ((k:Int)<c) with
  | true=>exact E6d c fu _ _
  | false=>rfl
theorem E4u (h:2≤c∧c≤80∧1≤r∧r≤40):(A1c c r).2.2.2.2=0:=by
 have a:(A8c c r ZJ).2=0:=by
  unfold A8c
  rw [show ((((decide (c<2))||(decide ((80:Int)<c)))||(decide (r<1)))||(decide ((40:Int)<r)))=false by grind,show G2 ZJ=0 by rfl]
  rfl
 grind[A1c,B5,C3x,E6d]
theorem E6b (h:(2≤c∧c≤80∧1≤r∧r≤40)∧(0≤f.row∧f.row<r∧0≤f.col∧f.col<c)∧(f.wrap=true→f.col=c - 1)):A1j c r f=true:=by
 unfold A1j
 rw [show ((((((((decide (c<2))||(decide ((80:Int)<c)))||(decide (r<1)))||(decide ((40:Int)<r)))||(decide (f.row<0)))||(decide (r≤f.row)))||(decide (f.col<0)))||(decide (c≤f.col)))=false by grind]
 rw [C8k (by show (-9223372036854775808:Int)≤_;omega) (by show _≤(9223372036854775807:Int);omega)]
 grind
theorem E3c (e:A1j c r f=true) (d:A1j c r ({ZS with row:=t.row,col:=t.col})=true):K8 c r ⟨f,t⟩=0:=by
 have a:=E1i e
 have h:_∧(0≤t.row∧t.row<r∧0≤t.col∧t.col<c)∧_:=E1i d
 unfold K8 R4;simp only [B5]
 rw [E4u a.1,C8k (by show (-9223372036854775808:Int)≤_;omega) (by show _≤(9223372036854775807:Int);omega)]
 grind
theorem F1g (a:jz):∀ (l:jz) (k:Nat),l=a.drop k→A6t a l k=true
 | [],_,_=>rfl
 | x::l,k,h=>by
  have b:k<a.length:=by
   grind[List.drop_of_length_le]
  have c:a.getD k ZZ=x:=by
   grind[List.drop_eq_getElem_cons]
  have d:l=a.drop (k+1):=by grind[List.drop_eq_getElem_cons]
  rw [A6t,c,jQ rfl]
  exact F1g a l (k+1) d
theorem F2q (a:jz):A6s a a=true:=by
 unfold A6s
 rw [jQ rfl]
 exact F1g a a 0 Z
theorem F8c (b:a.kind≠39) (c:k6 a) (hr:A4n a=true):Gd a:=.inr ⟨b,c,hr⟩
theorem C4u (h:0≤n∧n≤3∧1≤m∧m≤100):Gd {ZZ with kind:=20,n:=n,m:=m}:=F8c (by simp) (E1k opx) (by
 show ((((A8d n 0 3)&&(N8 m))&&decide (ZU=ZU))&&decide (([]:List UInt8)=[]))=true
 unfold N8 A8d
 grind)
theorem F5e (h:1≤n∧n≤100):Gd {ZZ with kind:=22,n:=n}:=F8c (by simp) (C6d (k:=22) (m:=0) opx) (by
 show ((((N8 n)&&decide ((0:Int)=0))&&decide (ZU=ZU))&&decide (([]:List UInt8)=[]))=true
 unfold N8 A8d
 grind)
theorem F4g (h:1≤n∧n≤100∧1≤m∧m≤100):Gd {ZZ with kind:=19,n:=n,m:=m}:=F8c (by simp) (C6d (k:=19) opx) (by
 show ((((N8 n)&&(N8 m))&&decide (ZU=ZU))&&decide (([]:List UInt8)=[]))=true
 unfold N8 A8d
 grind)
theorem D4h {k:Int} (h:k=3∨k=5∨k=6):Gd {ZZ with kind:=k}:=F8c (by grind) (C6d (k:=k) (n:=0) (m:=0) opx) (by rcases h with rfl | rfl | rfl<;>rfl)
theorem C8q {n:Nat} (h:Gd a):A2c (List.replicate n a):=fun b hb=>by grind
theorem F2r {c0:Pth} (hb:0≤c0.frm.row∧c0.frm.row≤40∧0≤c0.to_.row∧c0.to_.row≤40) (a:e ∈ H7 c0):A2c e:=by
 rcases D6u a with ⟨rfl,h⟩ | ⟨rfl,h⟩ | ⟨rfl,h⟩ | ⟨rfl,h⟩
 ·exact D6x
 ·exact A7a (C4u opx)
 ·exact A7a (C4u opx)
 simp[B0c,C8q,D4h]
theorem E6g (hb:0≤p.frm.col∧p.frm.col≤80∧0≤p.to_.col∧p.to_.col≤80) (a:e ∈ K0 p):A2c e:=by
 rcases F0z e a with ⟨rfl,h⟩ | rfl | ⟨rfl,h⟩ | ⟨rfl,h⟩ | ⟨rfl,h⟩ | ⟨rfl,h⟩ | ⟨rfl,h⟩
 ·exact D6x
 ·exact A7a (F5e opx)
 ·exact A7a (C4u opx)
 ·exact A7a (C4u opx)
 ·simp[B0c,C8q,D4h]
 ·rw [B0c];exact C8q (D4h opx)
 ·rw [B0c];exact A2c.app (C8q (D4h opx)) (A7a (C4u opx))
theorem F9u (hb:(0≤f.row∧f.row≤40∧0≤t.row∧t.row≤40)∧(0≤f.col∧f.col≤80∧0≤t.col∧t.col≤80)):∀ e ∈ H9 ⟨f,t⟩,A2c e:=fun e c =>
 E3q ⟨f,t⟩ A2c (A7a (F4g (by grind))) _ (fun d b a g _=>A2c.app (F2r hb.1 b) (E6g hb.2 g)) e c
def C9p (e:jz):Int:=((X2 e).1.length:Int)
theorem E0b {a:jz} (b:(X2 a).2=0) (l:List jz) (w:jz) (k:Int):K9 (a::l) w k=if 0≤k∧k≤C9p a then K9 l w k else K9 l a (C9p a):=by
 rw [K9];simp only [B5]
 rw [b]
 unfold C9p
 simp
theorem E6v (a:A2c e) (b:e.length≤100):((A0g e).length:Int)=C9p e:=by unfold C9p;rw [D9x opx a,B4g opx a]
theorem C6s (W:List jz) (b:∀ e ∈ W,((A0g e).length:Int)=C9p e) (d:((A0g []).length:Int)=C9p []) (f:∀ e ∈ W,(X2 e).2=0):∀ (l:List jz) (a i:Nat),l=W.drop i→A1t W l a i=(K9 l (W.getD a []) (C9p (W.getD a []))).1
 | [],a,i,_=>rfl
 | el::l,a,i,h=>by
  obtain ⟨m,j⟩:=F0p h []
  have g:el ∈ W:=List.drop_subset i W (h▸List.mem_cons_self ..)
  rw [A1t];simp only [B5]
  have hb:((A0g (W.getD a [])).length:Int)=C9p (W.getD a []):=by
   rw [List.getD_eq_getElem?_getD]
   cases c:W[a]? with
   | none=>exact d
   | some y=>exact b y (List.mem_of_getElem? c)
  rw [b _ g,hb,E0b (f _ g)]
  have k:0≤C9p (W.getD a []):=by unfold C9p;omega
  by_cases hc:C9p el<C9p (W.getD a [])
  ·rw [jQ hc,if_neg opx]
   have c:=C6s W b d f l i (i+1) j
   rw [m] at c;exact c
  ·rw [jX hc,if_pos ⟨k,by omega⟩]
   exact C6s W b d f l a (i+1) j
theorem F5j (i:K8 c r ⟨f,t⟩=0):A3h c r f t=(A1z f t,0):=by
 rw [E3r]
 have hb:=C7l (c:=c) (r:=r) (c0:=⟨f,t⟩) (by grind)
 have g:=(C9k (c0:=⟨f,t⟩) hb).1
 have j:∀ e ∈ H9 ⟨f,t⟩,A2c e:=fun e b=>F9u hb e b
 have b:∀ e ∈ H9 ⟨f,t⟩,(X2 e).2=0:=fun e b=>by rw [B4g (by have:=(g e b).1;omega) (j e b)]
 have n:(K9 (H9 ⟨f,t⟩) [] (-1)).2=0:=(C1n _ _ _ g ⟨Nat.zero_le _,fun a h=>by cases h⟩).2
 have d:∀ e ∈ H9 ⟨f,t⟩,((A0g e).length:Int)=C9p e:=fun e k=>E6v (j e k) (g e k).1
 have l:A1z f t=(K9 (H9 ⟨f,t⟩) [] (-1)).1:=by
  unfold A1z;simp only [B5]
  rw [C1t hb]
  obtain ⟨x,tl,hx⟩:∃ x tl,H9 ⟨f,t⟩=x::tl:=by
   have:=F5x ⟨f,t⟩ (H7 ⟨f,t⟩)
   have m:F4 ⟨f,t⟩ (H7 ⟨f,t⟩)=H9 ⟨f,t⟩:=rfl
   rw [m] at this
   cases hq:H9 ⟨f,t⟩<;>grind
  rw [C6s _ d (E6v (fun a h=>by cases h) (Nat.zero_le _)) b _ 0 1 rfl]
  simp_all[E0b]
 grind
end
section
variable {l:List Sp3}
theorem F8o:B9a=true:=by decide +kernel
theorem G0j (f:FrmC):∀ (l:jj) (ok:Bool) (t:Nat),S2 f l ok t≠0→S2 f l ok t=330
 | [],ok,t=>by grind[S2]
 | r::l,ok,t=>by
  rw [S2]
  cases (!((ok&&(decide ((r.length:Int)=f.cols)))&&(decide ((W7 r false)=0)))) with
  | true=>simp
  | false=>exact G0j f l _ _
theorem F4z {f:FrmC} {a:jj} (h:S5 f a≠0):S5 f a=330:=by grind[S5,G0j]
section
variable {a b:FrmC} {aR bR:jj} {c:Cur}
theorem C1q (d:∀ r ∈ aR,∀ x ∈ r,aIn x) (hb:∀ r ∈ bR,∀ x ∈ r,aIn x):K4 a aR b bR=bif ((!(L6 a aR))||(!(L6 b bR))) then 330 else (bif (!(A4o a aR b bR)) then 2 else 0):=by
 unfold K4
 by_cases h1:S5 a aR=0
 ·by_cases h2:S5 b bR=0
  ·grind[B9k,A4o]
  ·have c:L6 b bR=false:=by
    grind[B9k]
   simp_all[F4z]
 grind[B9k,F4z]
theorem F1l (b:A1j a.cols (aR.length:Int) c=true) {t:Plc} (d:0≤t.row∧t.row<(aR.length:Int)∧0≤t.col∧t.col<a.cols):A3h a.cols (aR.length:Int) c t=(A1z c t,0) :=
 F5j (E3c b (E6b ⟨(E1i b).1,d,fun e=>by cases e⟩))
theorem E6a (e:∀ r ∈ aR,∀ x ∈ r,aIn x) (hb:∀ r ∈ bR,∀ x ∈ r,aIn x) (h:N7 a aR b bR c=0):A3v a aR b bR c=(true,{HndC.zero with cur:=c,cols:=a.cols,rows:=(aR.length:Int)},0):=by
 obtain ⟨j,i,f,d⟩:=B7f h
 have g:=E1i d
 unfold A3v A7t;simp only [B5]
 rw [C1q e hb,j,i,f,F1l d (t:=Plc.zero) ⟨Int.le_refl _,by show (0:Int)<_;omega,Int.le_refl _,by show (0:Int)<_;omega⟩]
 rfl
theorem E0t {s:Sp3} (k:aR.length=bR.length) (c:∀ i,i<aR.length→((aR.getD i []).length:Int)=a.cols) (d:∀ i,i<bR.length→((bR.getD i []).length:Int)=a.cols) :
  (((((((decide (s.row<0))||(decide ((aR.length:Int)≤s.row)))||(decide (s.frm<0)))||(decide (s.tt≤s.frm)))||(decide (a.cols<s.tt)))||(U2 (aR.getD ((s.row).toNat) []) s))||(U2 (bR.getD ((s.row).toNat) []) s))=!P8 a aR b bR s:=by
 unfold P8 U2
 grind
theorem E6j (d:1≤aR.length∧aR.length≤40∧aR.length=bR.length) (m:2≤a.cols∧a.cols≤80) (o:∀ i,i<aR.length→((aR.getD i []).length:Int)=a.cols) (g:∀ i,i<bR.length→((bR.getD i []).length:Int)=a.cols) (hR:∀ r ∈ bR,U5 r false=true) (hb:∀ r ∈ bR,∀ x ∈ r,aIn x) :
  ∀ (l:List Sp3) (t i:Nat) (h:HndC) (hL:jz),(∀ s ∈ l,P8 a aR b bR s=true)→h.cols=a.cols∧h.rows=(aR.length:Int)→A1j a.cols (aR.length:Int) h.cur=true→G2 h.style=0 →
  ∃ f,N6 bR l 0 t h hL=((V2 a bR l hL i h.style h.cur).1,f,0)∧f.cur=(V2 a bR l hL i h.style h.cur).2∧(f.cols=a.cols∧f.rows=(aR.length:Int))∧A1j a.cols (aR.length:Int) f.cur=true
 | [],t,i,h,hL,_,hc,hI,hs=>by
  rw [N6,V2];unfold A1e O5;simp only [B5]
  rw [(C4z h.style ZJ hs E5e).1]
  grind
 | s::l,t,i,h,hL,hf,hc,hI,hs=>by
  have hF:=hf s jU
  obtain ⟨hp,q⟩:=F1t hF d.2.2 g hR
  have y:bR.getD s.row.toNat [] ∈ bR:=by
   rw [List.getD_eq_getElem?_getD,List.getElem?_eq_getElem opx];exact List.getElem_mem _
  have a4:=g s.row.toNat opx
  have p:=hR _ y
  have v:=F9p (hb _ y) p
  have hw:((bR.getD s.row.toNat []).getD s.frm.toNat ZV).wide≠2∧(s.tt<((bR.getD s.row.toNat []).length:Int)→((bR.getD s.row.toNat []).getD s.tt.toNat ZV).wide≠2):=by
   have j:=E0t (a:=a) (b:=b) (s:=s) d.2.2 o g
   rw [hF,Bool.not_true] at j
   have j:=(Bool.or_eq_false_iff.1 j).2
   unfold U2 at j
   simp only [Bool.or_eq_false_iff,Bool.and_eq_false_iff,decide_eq_false_iff_not] at j
   exact ⟨j.1,fun h=>by rcases j.2 with n | n;exact absurd h n;exact n⟩
  have k:=F1l (a:=a) (aR:=aR) (c:=h.cur) hI (t:=⟨s.row,s.frm⟩) ⟨by show 0≤s.row;omega,by show s.row<_;omega,by show 0≤s.frm;omega,by show s.frm<_;omega⟩
  obtain ⟨a0,w⟩:=F6v (to_:=s.tt) (pen:=h.style) v ((E8r _ false (hb _ y)).2 p) (from_:=s.frm) ⟨by omega,by omega,by omega⟩ hw.1 hw.2 q hs
  have a1:=(B9s (bR.getD s.row.toNat []) s.frm s.tt h.style ⟨by omega,by omega,by omega,by omega⟩ q).1
  rw [N6,V2];simp only [B5]
  have hd:A2k h hL (bR.getD s.row.toNat []) s=((hL++A1z h.cur ⟨s.row,s.frm⟩)++(C4 (bR.getD s.row.toNat []) s.frm s.tt h.style).2,{h with style:=(C4 (bR.getD s.row.toNat []) s.frm s.tt h.style).1.pen,cur:=(bif decide ((C4 (bR.getD s.row.toNat []) s.frm s.tt h.style).1.ends=a.cols) then (⟨s.row,(C4 (bR.getD s.row.toNat []) s.frm s.tt h.style).1.ends - 1,true⟩:Cur) else {ZS with row:=s.row,col:=(C4 (bR.getD s.row.toNat []) s.frm s.tt h.style).1.ends})},0):=by
   unfold A2k Q0 O5;simp only [B5]
   rw [hc.1,hc.2,k]
   simp only [decide_true,cond_true,Bool.not_true,cond_false]
   rw [a0]
   simp only [decide_true,Bool.not_true,cond_false]
   rw [A5r opx]
   congr 2
   generalize (C4 (bR.getD s.row.toNat []) s.frm s.tt h.style).1.ends=E at *
   by_cases he:E=a.cols
   ·rw [jQ he,cond_true,if_pos opx,he]
   ·rw [jX he,cond_false,if_neg opx];rfl
  rw [hd]
  simp only [decide_true,Bool.not_true,cond_false]
  have hq:∀ z:Cur,A1j a.cols (aR.length:Int) z=true→∀ u:HndC,u.cur=z→u.cols=a.cols∧u.rows=(aR.length:Int)→u.style=(C4 (bR.getD s.row.toNat []) s.frm s.tt h.style).1.pen→∃ f,N6 bR l 0 (t+1) u ((hL++A1z h.cur ⟨s.row,s.frm⟩)++(C4 (bR.getD s.row.toNat []) s.frm s.tt h.style).2)=((V2 a bR l ((hL++A1z h.cur ⟨s.row,s.frm⟩)++(C4 (bR.getD s.row.toNat []) s.frm s.tt h.style).2) (i+1) (C4 (bR.getD s.row.toNat []) s.frm s.tt h.style).1.pen z).1,f,0)∧f.cur=(V2 a bR l ((hL++A1z h.cur ⟨s.row,s.frm⟩)++(C4 (bR.getD s.row.toNat []) s.frm s.tt h.style).2) (i+1) (C4 (bR.getD s.row.toNat []) s.frm s.tt h.style).1.pen z).2∧(f.cols=a.cols∧f.rows=(aR.length:Int))∧A1j a.cols (aR.length:Int) f.cur=true:=by
   intro z hz u h1 n h3
   have:=E6j d m o g hR hb l (t+1) (i+1) u ((hL++A1z h.cur ⟨s.row,s.frm⟩)++(C4 (bR.getD s.row.toNat []) s.frm s.tt h.style).2) (fun x hx=>hf x (List.mem_cons_of_mem _ hx)) n (by rw [h1];exact hz) (by rw [h3];exact w)
   rw [h1,h3] at this;exact this
  by_cases he:(C4 (bR.getD s.row.toNat []) s.frm s.tt h.style).1.ends=a.cols
  ·rw [jQ he];simp only [cond_true]
   exact hq _ (E6b ⟨by omega,⟨by show 0≤s.row;omega,by show s.row<_;omega,by show 0≤_ - 1;omega,by show _ - 1<_;omega⟩,fun _=>by show _ - 1=_;omega⟩) _ Z hc Z
  ·rw [jX he];simp only [cond_false]
   exact hq _ (E6b ⟨by omega,⟨by show 0≤s.row;omega,by show s.row<_;omega,by show 0≤(C4 (bR.getD s.row.toNat []) s.frm s.tt h.style).1.ends;omega,by show (C4 (bR.getD s.row.toNat []) s.frm s.tt h.style).1.ends<_;omega⟩,fun e=>by cases e⟩) _ rfl hc rfl
end
end
end Go.Proofs.YtmldjljkeigpnaaGreatDoor
namespace Go.Proofs.YtmldjljkeigpnaaGreatDoor
section
open Go Go.Fen open Go.IntKind (i64)
theorem fo (d:Bool) (x:Act):(!(decide ((⟨d,x⟩:Sad)={Sad.zero with does:=x})))=d:=by
 cases d with
 | false=>rw [jQ (show (⟨false,x⟩:Sad)={Sad.zero with does:=x} from rfl)];rfl
 | true=>rfl
theorem e9 (t:Nat) (ag:Nat→List Sp3→List Sp3×Int) (h:∀ l,(ag (t+1) l).2=0):∀ (es l:List Sp3),(U9 t ag es l).2=0
 | [],l=>by grind[U9]
 | e::es,l=>by simp only [U9,B5,e9 t ag h es]
theorem dz (B:jj):∀ (a:jj) (t:Nat) (l:List Sp3),(P4 B a t l).2=0
 | [],t,l=>rfl
 | r::a,t,l=>by simp only [P4,e9 t _ (fun l=>dz B a (t+1) l)]
theorem ed {x:Cel} {l:jk} {n m:Nat} (h:l.take n=List.replicate n x) (a:m≤n):l.take m=List.replicate m x:=by
 rw [← Nat.min_eq_left a,← List.take_take,h,List.take_replicate]
theorem cm (x:Cel) (N:Nat):∀ (fu:Nat) (l:jk) (n:Nat),l.length=N→1≤n→N - n<fu→l.take n=List.replicate (min n N) x→X3 fu l n=List.replicate N x
 | 0,l,n,hl,hn,hf,ht=>by omega
 | fu+1,l,n,hl,hn,hf,ht=>by
  simp only [X3]
  by_cases c:(n:Int)<(l.length:Int)
  ·rw [jQ c,cond_true]
   have f:n<N:=by omega
   rw [Nat.min_eq_left opx] at ht
   have a:(l.take n++(l.take (min n (l.length - n))++l.drop (n+min n (l.length - n)))).length=N:=by
    grind
   refine cm x N fu _ _ a opx opx ?_
   have e:=Nat.min_le_left n (l.length - n)
   have d:=Nat.min_le_right n (l.length - n)
   generalize min n (l.length - n)=m at e d ⊢
   rw [ht,ed ht e,Nat.min_eq_left (b:=N) opx,← List.append_assoc,List.replicate_append_replicate,List.take_append_of_le_length oom,List.take_of_length_le oom]
  simp_all[jX,List.take_of_length_le]
theorem ew (x:Cel) (c:Int) (a:2≤c∧c≤80):A2p [x] c=List.replicate c.toNat x:=by
 unfold A2p B5
 rw [show ([x]:jk).length=1 from rfl,F8n 1 c rfl opx]
 show X3 (_ - (min 1 (List.replicate ((i64.wrap c).toNat) ZV).length)+1) (List.take (List.replicate ((i64.wrap c).toNat) ZV).length [x]++List.drop 1 (List.replicate ((i64.wrap c).toNat) ZV)) (min 1 (List.replicate ((i64.wrap c).toNat) ZV).length)=_
 rw [wr6 opx,List.length_replicate,Nat.min_eq_left opx,List.take_of_length_le (by grind)]
 refine cm x c.toNat _ _ 1 (by grind) opx oom ?_
 grind
theorem ek (c:Int) (a:2≤c∧c≤80):E2e c ZJ=(List.replicate c.toNat (B6x ZJ),false,0):=by simp_all[E2e,E5e,jX,ew]
theorem cn (w:Int) (c:2≤w∧w≤80):∀ (a l:List (Rwc Cel)) (t:Nat),l.length=t+a.length→l.take t=List.replicate t ⟨List.replicate w.toNat (B6x ZJ),false⟩ →
  A4x w ZJ a l t=List.replicate (t+a.length) ⟨List.replicate w.toNat (B6x ZJ),false⟩
 | [],l,t,hl,ht=>by
  grind[A4x]
 | _::a,l,t,hl,ht=>by
  simp only [A4x,B5]
  rw [ek w c,cn w c a _ (t+1) (by grind) ?_]
  ·grind
  simp_all[List.take_add_one,List.take_set_of_le,List.replicate_succ']
theorem eb (c r:Int) (a:2≤c∧c≤80) (hr:1≤r∧r≤40):A8c c r ZJ=(List.replicate r.toNat ⟨List.replicate c.toNat (B6x ZJ),false⟩,0):=by
 unfold A8c
 rw [E5e,jX opx,jX opx,jX opx,jX opx]
 simp only [Bool.or_self,decide_true,Bool.not_true,cond_false,B5]
 unfold B4x
 rw [cn c a _ _ 0 oom rfl]
 simp
theorem fp (c:Int) (a:2≤c∧c≤80):(C3x c).2=0:=by simp_all[C3x,jX,E6d]
theorem bc:∀ (l:List (Rwc Cel)) (t:Nat),A3x l t=l.map Rwc.l
 | [],t=>rfl
 | a::l,t=>by simp only [A3x,List.map_cons,List.take_length];rw [bc]
theorem dc (s:ScrC):∀ (l f:jj),A4r s l f=((⟨s.cols,(⟨s.cursor.row,s.cursor.col⟩:Plc),s.modes.visible,s.shape,s.title⟩:FrmC),f++l)
 | [],f=>by simp [A4r]
 | a::l,f=>by simp only [A4r];rw [dc];simp
theorem fh (s:ScrC) (m a:List (Rwc Cel)) (t:List Bool):B8b s m a t=((⟨s.cols,(⟨s.cursor.row,s.cursor.col⟩:Plc),s.modes.visible,s.shape,s.title⟩:FrmC),(if s.onAlt then a else m).map Rwc.l):=by grind[B8b,B2r,A8i,dc,bc]
theorem fb (c r:Int) (a:2≤c∧c≤80) (hr:1≤r∧r≤40):B5p c r=((⟨c,Plc.zero,true,0,[]⟩:FrmC),List.replicate r.toNat (List.replicate c.toNat (B6x ZJ)),0):=by simp_all[B5p,A1c,eb,fp,fh,ScrC.zero,B7g,ZS,Plc.zero]
def zb:Cel:={ZV with base:=32}
theorem dg (n:Nat):∀ (k i:Nat),X4 (List.replicate n zb) (List.replicate k zb) i=0
 | 0,i=>rfl
 | k+1,i=>by
  have e:((List.replicate n zb).getD (i - 1) ZV).wide=0:=by
   simp only [List.getD_eq_getElem?_getD,List.getElem?_replicate];split<;>rfl
  rw [List.replicate_succ,X4,show A0w zb=0 by rfl,e,show zb.wide=0 from rfl]
  simp only [decide_true,Bool.not_true,cond_false,show decide ((0:Int)=1)=false from rfl,show decide ((0:Int)=2)=false from rfl,Bool.and_false,Bool.false_and,Bool.or_false,beq_self_eq_true]
  exact dg n k (i+1)
theorem fi {c:Int} (a:2≤c∧c≤80):U5 (List.replicate c.toNat zb) false=true:=by grind[U5,B1y,dg]
theorem db (f:FrmC) (b:2≤f.cols∧f.cols≤80) (a:f.title=[]):∀ (k i:Nat),X7 f (List.replicate k (List.replicate f.cols.toNat zb)) i=true
 | 0,i=>by show B3d 0 0 ZU f.title=true;rw [a];rfl
 | k+1,i=>by
  rw [List.replicate_succ,X7,fi b,List.length_replicate,jQ (show ((f.cols.toNat:Nat):Int)=f.cols by omega)]
  exact db f b a k (i+1)
theorem ff {c r:Int} (a:2≤c∧c≤80) (hr:1≤r∧r≤40):L6 ({Za with cols:=c,visible:=true}:FrmC) (List.replicate r.toNat (List.replicate c.toNat zb))=true:=by
 have h:=db ({Za with cols:=c,visible:=true}:FrmC) a rfl r.toNat 0
 have h:X7 ({Za with cols:=c,visible:=true}:FrmC) (List.replicate r.toNat (List.replicate c.toNat zb)) 0=true:=h
 unfold L6
 rw [h,List.length_replicate]
 show (bif ((((((decide (c<2))||(decide ((80:Int)<c)))||(decide ((r.toNat:Int)<1)))||(decide ((40:Int)<(r.toNat:Int))))||(decide ((0:Int)<0)))||(decide ((6:Int)<0))) then false else (bif ((((decide ((0:Int)<0))||(decide ((r.toNat:Int)≤0)))||(decide ((0:Int)<0)))||(decide (c≤0))) then false else true))=true
 grind
theorem dt (a:FrmC) (bR:jj) (p:jz):∀ (l:List Sp3) (out:jz) (i:Nat) (pen:Sty) (c:Cur),V2 a bR l (p++out) i pen c=(p++(V2 a bR l out i pen c).1,(V2 a bR l out i pen c).2)
 | [],out,i,pen,c=>by simp[V2]
 | s::l,out,i,pen,c=>by
  simp only [V2,B5]
  cases decide ((C4 (bR.getD s.row.toNat []) s.frm s.tt pen).1.ends=a.cols)<;>simp only [cond_true,cond_false,List.append_assoc]<;>exact dt a bR p l _ _ _ _
theorem fj {h:HndC} {a:FrmC} {aR:jj} {b:FrmC} {bR:jj} {c:Cur} (L:jz) (d:A3h h.cols h.rows h.cur b.cursor=(A1z c b.cursor,0)):(B3e h L a aR b bR).1=L++ba a aR b bR c∧(B3e h L a aR b bR).2.2=0:=by
 unfold B3e A8x ba au ar ap av
 simp only [fo,B5,Q0,O5,d]
 generalize decide (a.title=b.title)=x
 generalize decide (a.shape=b.shape)=y
 generalize a.visible=v
 generalize b.visible=w
 cases x<;>cases y<;>cases v<;>cases w<;>refine ⟨?_,rfl⟩<;>simp [List.append_assoc]<;>rfl
theorem dj (f:FrmC) (fR:jj) (i:∀ r ∈ fR,∀ x ∈ r,aIn x):az f fR=true:=by
 unfold az;simp only [B5]
 rw [F8o]
 cases hr:L6 f fR with
 | false =>
  grind[B9k,E2l,F4z]
 | true =>
  have hc:S5 f fR=0:=(B9k i).2 hr
  have hw:FRt f fR:=C3g hr
  obtain ⟨z,w2,w3,w4,w5⟩:=id hw
  have a2:=F2t hr
  have l:=bm f.cols (fR.length:Int)
  have hb:B5p f.cols (fR.length:Int)=((B2d f.cols (fR.length:Int)).1,(B2d f.cols (fR.length:Int)).2,0):=by
   rw [fb _ _ ⟨z,w2⟩ ⟨by omega,by omega⟩,l];rfl
  generalize hX:B2d f.cols (fR.length:Int)=B at hb l
  have a8:=aw hX hw
  have j:=di hX hr
  have k:L6 B.1 B.2=true:=by
   rw [l];exact ff ⟨z,w2⟩ ⟨by omega,by omega⟩
  have hz:∀ r ∈ B.2,∀ x ∈ r,aIn x:=by
   rw [l];intro r w x o
   rw [List.eq_of_mem_replicate w] at o
   rw [List.eq_of_mem_replicate o];unfold aIn;decide +kernel
  have g:B.1.cols=f.cols:=by rw [l]
  have hI:A1j B.1.cols (B.2.length:Int) ZS=true:=E6b ⟨by omega,⟨Int.le_refl _,by show (0:Int)<_;omega,Int.le_refl _,by show (0:Int)<_;omega⟩,fun e=>by cases e⟩
  have u:N7 B.1 B.2 f fR ZS=0:=by
   grind[N7,A4o]
  have q:=B4n u
  have y:A3d B.1 B.2 f fR=(u0d B.1 B.2 f fR,0):=by
   unfold A3d
   rw [C1q hz i,k,hr,show A4o B.1 B.2 f fR=true from (B7f u).2.2.1]
   show P4 fR B.2 0 []=_
   refine Prod.ext (dl B.2 fR) ?_
   simp[dz]
  obtain ⟨v,s,p,e3,e4⟩:=E6j (a:=B.1) (b:=f) (aR:=B.2) (bR:=fR) ⟨by omega,by omega,by omega⟩ q.1.1 q.2.1 q.2.2.1 q.2.2.2.2 i (u0d B.1 B.2 f fR) 0 0 {HndC.zero with cur:=ZS,cols:=B.1.cols,rows:=(B.2.length:Int)} ([{ZZ with kind:=15},{ZZ with kind:=37,n:=1049,m:=1}]++[]) j ⟨rfl,rfl⟩ hI E5e
  rw [dt] at s p
  have s:N6 fR (u0d B.1 B.2 f fR) 0 0 {HndC.zero with cur:=ZS,cols:=B.1.cols,rows:=(B.2.length:Int)} [{ZZ with kind:=15},{ZZ with kind:=37,n:=1049,m:=1}]=([{ZZ with kind:=15},{ZZ with kind:=37,n:=1049,m:=1}]++(B5s B.1 B.2 f fR (u0d B.1 B.2 f fR) ZS).1,v,0):=s
  have p:v.cur=(B5s B.1 B.2 f fR (u0d B.1 B.2 f fR) ZS).2:=p
  have d:=F1l (a:=B.1) (aR:=B.2) (c:=v.cur) e4 (t:=f.cursor) opx
  rw [← e3.1,← e3.2] at d
  obtain ⟨r1,r2⟩:=fj (a:=B.1) (aR:=B.2) (b:=f) (bR:=fR) ([{ZZ with kind:=15},{ZZ with kind:=37,n:=1049,m:=1}]++(B5s B.1 B.2 f fR (u0d B.1 B.2 f fR) ZS).1) d
  have hof:E2l f fR=(bi f fR,0):=by
   unfold E2l bi;simp only [B5]
   rw [hc,hb,hX,y,E6a hz i u]
   simp only [decide_true,Bool.not_true,cond_false,cond_true]
   unfold O5 A5j
   rw [List.nil_append,s]
   simp only [r1,r2,p]
   rfl
  rw [hof,F2q];rfl
end
end Go.Proofs.YtmldjljkeigpnaaGreatDoor
