import Derived.Test.YtanighkpfmgnbaaGreatDoorProg
import Derived.Test.YtanighkpfmgnbaaGreatDoorA2
import Derived.Test.YtanighkpfmgnbaaGreatDoorB1
import Derived.Test.YtanighkpfmgnbaaGreatDoorA3
import Derived.Test.YtanighkpfmgnbaaGreatDoorB2
import Derived.Test.YtanighkpfmgnbaaGreatDoorB3
import Derived.Test.YtanighkpfmgnbaaGreatDoorB4
set_option linter.unusedVariables false
set_option linter.unusedSimpArgs false
set_option linter.unnecessarySimpa false
set_option maxRecDepth 100000
namespace Go.Proofs.YtanighkpfmgnbaaGreatDoor
open Go Go.Fen
theorem D7x:Ty Tryz.prog 38 1 false:=⟨by kernel_rfl⟩
theorem E5t:Ty Tryz.prog 39 1 false:=⟨by kernel_rfl⟩
theorem C0k {P:Program} {X:Cx} {E:Env} {L:Fen.Own} {Φ:List Pers} {o:Oper} {T e sz b:Nat} {x y:Operand} {len cap:Nat} {kd:IntKind} {m:Int} (hT:SlTy P T e sz) (ho:o.op=.indexAddr T x y)
  (hx:ev E x=some (.slice (some ⟨b,0,none⟩) len cap)) (hy:ev E y=some (.int kd m)) (k:Nat) (hk:m=k) (hl:k<len):G4 P X o E L Φ (.pointer (some ⟨b,k * sz,none⟩)):=.of_run fun ac w ha _=>by
 subst hk
 have h1:(0:Int)≤k∧(k:Int)<len:=by omega
 simp [execOp,ho,C1 ha hx,C1 ha hy,Instr.indexAt,asIntOf,run_underlying hT.ty,hT.run,h1,Nat.not_le.2 hl,A0g]
def B6k (d:Drf):Prop:=(0≤d.kind∧d.kind≤65535)∧(0≤d.n∧d.n≤65535)∧(0≤d.m∧d.m≤65535)∧(0≤d.rgb∧d.rgb≤4294967295)
def A1c (d:Drf) (t42:Bool):Act :=
 (bif t42 then (bif (decide ((d.m % 4)=1)) then {Act.zero with kind:=39,n:=(d.n % 7),color:=(⟨2,(d.rgb % 16777216)⟩:Col)} else (bif (decide ((d.m % 4)=2)) then {Act.zero with kind:=39,n:=(d.n % 7),color:=(⟨1,(d.rgb % 256)⟩:Col)} else (bif (decide ((d.m % 4)=3)) then {Act.zero with kind:=39,n:=(d.n % 7),color:=(⟨1,(d.rgb % 18)⟩:Col)} else {Act.zero with kind:=39,n:=(d.n % 7)}))) else {Act.zero with kind:=39,n:=(d.n % 7)})
def A4a (d:Drf):Act :=
 (bif (decide ((d.n % 7)=1)) then {Act.zero with kind:=39,n:=(d.n % 7),m:=((([4,8,16,32,64,128]:List Int)++([1,2]:List Int)).getD ((d.m % 8).toNat) 0)} else (bif (decide ((d.n % 7)=2)) then {Act.zero with kind:=39,n:=(d.n % 7),m:=((([4,8,16,32,64,128]:List Int)++([3]:List Int)).getD ((d.m % 7).toNat) 0)} else (bif (decide ((d.n % 7)=3)) then {Act.zero with kind:=39,n:=(d.n % 7),m:=(d.m % 6)} else (bif (decide ((d.n % 7)=4)) then A1c d (decide ((d.n % 7)=4)) else (bif (decide ((d.n % 7)=5)) then A1c d (decide ((d.n % 7)=5)) else A1c d (decide ((d.n % 7)=6)))))))
theorem C8z (d:Drf) (hd:B6k d) (R:Act) (hR:A4a d=R):I4 Tryz.prog 44 [ag (I7 d)] [] (ag (A2 R)):=by
 refine zco Tryz.func44 [(0,ag (I7 d))] fun X hX hr hD=>?_
 replace hR:=(A4a.eq_1 ..).symm.trans hR
 have hdi:=hd;unfold B6k at hdi
 have hl8:(([4,8,16,32,64,128]:List Int)++([1,2]:List Int)).length=8:=rfl
 have hl7:(([4,8,16,32,64,128]:List Int)++([3]:List Int)).length=7:=rfl
 refine sr 2 rfl (C2e 2 0 [] (fun b1 b2=>[(1,pt b1 0),(2,pt b2 0)]) (fun b1 b2=>[bx b2 (A2 Act.zero) 26,bx b1 (I7 d) 41]) (fun b1 b2=>?_))
 refine ie (sr 7 rfl (zrl 2 5 [1] [(6,.int .u16 d.n)] ?_))
 refine ix rfl (U9 (c:=(d.n % 7)) rfl rfl rfl (by decide) (by omega)) ?_
 refine ix rfl (N7 (c:=(d.n % 7)) Tryz.underlying3 (by kernel_rfl) rfl rfl (O7 (by first|(simp [IntKind.min,IntKind.signed,IntKind.bits];omega)|(simp [IntKind.max,IntKind.signed,IntKind.bits];omega)) (by first|(simp [IntKind.min,IntKind.signed,IntKind.bits];omega)|(simp [IntKind.max,IntKind.signed,IntKind.bits];omega)))) ?_
 refine O2 3 0 [0] (fun b3=>[(3,pt b3 0)]) (fun b3=>[bx b3 (A2 ({Act.zero with kind:=39,n:=(d.n % 7)})) 26,bx b2 (A2 Act.zero) 26,bx b1 (I7 d) 41]) (fun b3=>?_)
 refine ie (sr 3 rfl (O2 3 0 [0] (fun b4=>[(4,pt b4 0)]) (fun b4=>[bx b4 [iv 4,iv 8,iv 16,iv 32,iv 64,iv 128] 147,bx b3 (A2 ({Act.zero with kind:=39,n:=(d.n % 7)})) 26,bx b2 (A2 Act.zero) 26,bx b1 (I7 d) 41]) (fun b4=>?_)))
 refine ie (A9 (sr 2 rfl (zrl 2 0 [1] [(12,iv (d.n % 7))] ?_)))
 refine ie (B3 (sr 2 rfl (ip' 2 0 [(13,bv (decide ((d.n % 7)=1)))] ?_)))
 refine ie ?_
 refine zjd rfl hR ?_ ?_<;>clear hR<;>intro hR h5 h5p
 ·refine E0z 0 rfl ?_
  refine B3f (show Y1 _ (sl D8 (some ⟨b4,0,none⟩) ([4,8,16,32,64,128]:List Int)) from B1 0 rfl) ?_
  refine sh' 10 [(9,[bx b3 (A2 ({Act.zero with kind:=39,n:=(d.n % 7)})) 26]),(10,[bx b2 (A2 Act.zero) 26]),(10,[bx b1 (I7 d) 41])] [sl D8 (some ⟨b4,0,none⟩) ([4,8,16,32,64,128]:List Int),at_ ⟨b4,0,none⟩ [iv 4,iv 8,iv 16,iv 32,iv 64,iv 128]] [bx b3 (A2 ({Act.zero with kind:=39,n:=(d.n % 7)})) 26,bx b2 (A2 Act.zero) 26,bx b1 (I7 d) 41] (zml 10 0) (by kernel_rfl) rfl (by kernel_rfl) (by kernel_rfl) (by kernel_rfl) (mk [true,true,true] rfl) A1.refl ?_
  refine zhp [3] 9 (zml 10 8) [(18,pt b1 2)] ?_
  refine zhk 0 (zml 10 9) rfl (B3b Tryz.underlying147 ty3 rfl rfl) ?_
  have:([4,8,16,32,64,128]:List Int).length=6:=rfl
  refine zhl 4 [bx b3 (A2 ({Act.zero with kind:=39,n:=(d.n % 7)})) 26,bx b2 (A2 Act.zero) 26,bx b1 (I7 d) 41] (zml 10 25) rfl (B6 (v:=.int .u16 d.m) D7x rfl rfl 2 rfl rfl) ?_
  refine zhk 5 (zml 10 57) rfl (U9 (c:=(d.m % 8)) rfl rfl rfl (by decide) (by omega)) ?_
  refine zho 1 [bx b3 (A2 ({Act.zero with kind:=39,n:=(d.n % 7)})) 26,bx b2 (A2 Act.zero) 26,bx b1 (I7 d) 41] (zml 10 59) rfl (B5 (c:=D8) (xs:=([1,2]:List Int)) F9 rfl rfl rfl (by kernel_rfl)) (fun b6=>(mk [true,true,true] rfl)) (fun b6=>(A1.pick [1,2] rfl)) fun b6=>?_
  have:([1,2]:List Int).length=2:=rfl
  refine zho 2 [bx b3 (A2 ({Act.zero with kind:=39,n:=(d.n % 7)})) 26,bx b2 (A2 Act.zero) 26,bx b1 (I7 d) 41] (zml 10 63) rfl (C3d (f:=D8) (xs:=([4,8,16,32,64,128]:List Int)) (ys:=([1,2]:List Int)) B7f (fun _=>rfl) (fun _=>rfl) rfl rfl rfl rfl rfl rfl (by omega) (by omega) (by rfl) (B1 1 rfl) (B1 0 rfl) (by simp) (by first|omega|(simp<;>omega)) (by first|omega|(simp<;>omega))) (fun ⟨r7,hr8⟩=>(mc [[bx b3 (A2 ({Act.zero with kind:=39,n:=(d.n % 7)})) 26],[bx b2 (A2 Act.zero) 26],[bx b1 (I7 d) 41],vo D8 3 r7 (([4,8,16,32,64,128]:List Int)++([1,2]:List Int))] [true,true,true,false] rfl (by first|rfl|(simp only [List.length_set]<;>rfl)))) (fun ⟨r7,hr8⟩=>(A1.pick [1,2] rfl)) fun ⟨r7,hr8⟩=>?_
  have:=VOk.le hr8
  have:=VOk.cap hr8
  obtain ⟨b9,hb10⟩:=VOk.some hr8 (by omega)
  obtain ⟨q11,k12,j13⟩:=r7
  obtain rfl:q11=some b9:=hb10
  refine zhl 6 [bx b3 (A2 ({Act.zero with kind:=39,n:=(d.n % 7)})) 26,bx b2 (A2 Act.zero) 26,bx b1 (I7 d) 41] (zml 10 127) rfl (C0k F9 rfl rfl rfl ((d.m % 8).toNat) (by omega) (by omega)) ?_
  refine zho 7 [bx b3 (A2 ({Act.zero with kind:=39,n:=(d.n % 7)})) 26,bx b2 (A2 Act.zero) 26,bx b1 (I7 d) 41] (zml 10 255) rfl (Det.tri (G4.det (N6 (u:=iv ((([4,8,16,32,64,128]:List Int)++([1,2]:List Int)).getD ((d.m % 8).toNat) 0)) (c:=D8) (sz:=1) ty3 (fun _=>rfl) rfl rfl 3 rfl ((d.m % 8).toNat) 0 rfl (gd 0 (by omega)) rfl))) (fun _=>(mc [[bx b3 (A2 ({Act.zero with kind:=39,n:=(d.n % 7)})) 26],[bx b2 (A2 Act.zero) 26],[bx b1 (I7 d) 41],vo D8 3 (⟨some b9,k12,j13⟩:VR) (([4,8,16,32,64,128]:List Int)++([1,2]:List Int))] [true,true,true,false] rfl (by first|rfl|(simp only [List.length_set]<;>rfl)))) (fun _=>(A1.pick [1,2] rfl)) fun _=>?_
  refine zhp [8] 1 (zml 10 511) [(23,pt b3 2)] ?_
  refine zho 9 [bx b2 (A2 Act.zero) 26,bx b1 (I7 d) 41] (zml 10 1023) rfl (M6 (us:=[iv ((([4,8,16,32,64,128]:List Int)++([1,2]:List Int)).getD ((d.m % 8).toNat) 0)]) (cs':=A2 ({Act.zero with kind:=39,n:=(d.n % 7),m:=((([4,8,16,32,64,128]:List Int)++([1,2]:List Int)).getD ((d.m % 8).toNat) 0)})) ty3 rfl rfl rfl 0 rfl rfl rfl rfl rfl rfl) (fun _=>(mc [[bx b3 (A2 ({Act.zero with kind:=39,n:=(d.n % 7),m:=((([4,8,16,32,64,128]:List Int)++([1,2]:List Int)).getD ((d.m % 8).toNat) 0)})) 26],[bx b2 (A2 Act.zero) 26],[bx b1 (I7 d) 41],vo D8 3 (⟨some b9,k12,j13⟩:VR) (([4,8,16,32,64,128]:List Int)++([1,2]:List Int))] [false,true,true,false] rfl (by first|rfl|(simp only [List.length_set]<;>rfl)))) (fun _=>(A1.pick [1,2] rfl)) fun _=>?_
  refine B8s (by kernel_rfl) ?_
  refine nx (sr 2 rfl (zrg 2 0 [0,1] [] (bx b3 (A2 ({Act.zero with kind:=39,n:=(d.n % 7),m:=((([4,8,16,32,64,128]:List Int)++([1,2]:List Int)).getD ((d.m % 8).toNat) 0)})) 26::bx b2 (A2 ({Act.zero with kind:=39,n:=(d.n % 7),m:=((([4,8,16,32,64,128]:List Int)++([1,2]:List Int)).getD ((d.m % 8).toNat) 0)})) 26::bx b1 (I7 d) 41::(vo D8 3 (⟨some b9,k12,j13⟩:VR) (([4,8,16,32,64,128]:List Int)++([1,2]:List Int)))++([])) ?_))
  subst hR
  refine ie (A5 ?_)
  exact zer hr hD (M4 rfl (D4 (us:=A2 ({Act.zero with kind:=39,n:=(d.n % 7),m:=((([4,8,16,32,64,128]:List Int)++([1,2]:List Int)).getD ((d.m % 8).toNat) 0)})) A1u rfl 1 rfl rfl rfl)) () (List.nil_sublist _) A1.nil
 refine sr 2 rfl (ip' 2 0 [(24,bv (decide ((d.n % 7)=2)))] ?_)
 refine ie ?_
 refine zjd rfl hR ?_ ?_<;>clear hR<;>intro hR h14 h14p
 ·refine E0z 0 rfl ?_
  refine B3f (show Y1 _ (sl D8 (some ⟨b4,0,none⟩) ([4,8,16,32,64,128]:List Int)) from B1 0 rfl) ?_
  refine sh' 10 [(9,[bx b3 (A2 ({Act.zero with kind:=39,n:=(d.n % 7)})) 26]),(10,[bx b2 (A2 Act.zero) 26]),(10,[bx b1 (I7 d) 41])] [sl D8 (some ⟨b4,0,none⟩) ([4,8,16,32,64,128]:List Int),at_ ⟨b4,0,none⟩ [iv 4,iv 8,iv 16,iv 32,iv 64,iv 128]] [bx b3 (A2 ({Act.zero with kind:=39,n:=(d.n % 7)})) 26,bx b2 (A2 Act.zero) 26,bx b1 (I7 d) 41] (zml 10 0) (by kernel_rfl) rfl (by kernel_rfl) (by kernel_rfl) (by kernel_rfl) (mk [true,true,true] rfl) A1.refl ?_
  refine zhp [3] 9 (zml 10 8) [(29,pt b1 2)] ?_
  refine zhk 0 (zml 10 9) rfl (B3b Tryz.underlying147 ty3 rfl rfl) ?_
  have:([4,8,16,32,64,128]:List Int).length=6:=rfl
  refine zhl 4 [bx b3 (A2 ({Act.zero with kind:=39,n:=(d.n % 7)})) 26,bx b2 (A2 Act.zero) 26,bx b1 (I7 d) 41] (zml 10 25) rfl (B6 (v:=.int .u16 d.m) D7x rfl rfl 2 rfl rfl) ?_
  refine zhk 5 (zml 10 57) rfl (U9 (c:=(d.m % 7)) rfl rfl rfl (by decide) (by omega)) ?_
  refine zho 1 [bx b3 (A2 ({Act.zero with kind:=39,n:=(d.n % 7)})) 26,bx b2 (A2 Act.zero) 26,bx b1 (I7 d) 41] (zml 10 59) rfl (B5 (c:=D8) (xs:=([3]:List Int)) F9 rfl rfl rfl (by kernel_rfl)) (fun b15=>(mk [true,true,true] rfl)) (fun b15=>(A1.pick [1,2] rfl)) fun b15=>?_
  have:([3]:List Int).length=1:=rfl
  refine zho 2 [bx b3 (A2 ({Act.zero with kind:=39,n:=(d.n % 7)})) 26,bx b2 (A2 Act.zero) 26,bx b1 (I7 d) 41] (zml 10 63) rfl (C3d (f:=D8) (xs:=([4,8,16,32,64,128]:List Int)) (ys:=([3]:List Int)) B7f (fun _=>rfl) (fun _=>rfl) rfl rfl rfl rfl rfl rfl (by omega) (by omega) (by rfl) (B1 1 rfl) (B1 0 rfl) (by simp) (by first|omega|(simp<;>omega)) (by first|omega|(simp<;>omega))) (fun ⟨r16,hr17⟩=>(mc [[bx b3 (A2 ({Act.zero with kind:=39,n:=(d.n % 7)})) 26],[bx b2 (A2 Act.zero) 26],[bx b1 (I7 d) 41],vo D8 3 r16 (([4,8,16,32,64,128]:List Int)++([3]:List Int))] [true,true,true,false] rfl (by first|rfl|(simp only [List.length_set]<;>rfl)))) (fun ⟨r16,hr17⟩=>(A1.pick [1,2] rfl)) fun ⟨r16,hr17⟩=>?_
  have:=VOk.le hr17
  have:=VOk.cap hr17
  obtain ⟨b18,hb19⟩:=VOk.some hr17 (by omega)
  obtain ⟨q20,k21,j22⟩:=r16
  obtain rfl:q20=some b18:=hb19
  refine zhl 6 [bx b3 (A2 ({Act.zero with kind:=39,n:=(d.n % 7)})) 26,bx b2 (A2 Act.zero) 26,bx b1 (I7 d) 41] (zml 10 127) rfl (C0k F9 rfl rfl rfl ((d.m % 7).toNat) (by omega) (by omega)) ?_
  refine zho 7 [bx b3 (A2 ({Act.zero with kind:=39,n:=(d.n % 7)})) 26,bx b2 (A2 Act.zero) 26,bx b1 (I7 d) 41] (zml 10 255) rfl (Det.tri (G4.det (N6 (u:=iv ((([4,8,16,32,64,128]:List Int)++([3]:List Int)).getD ((d.m % 7).toNat) 0)) (c:=D8) (sz:=1) ty3 (fun _=>rfl) rfl rfl 3 rfl ((d.m % 7).toNat) 0 rfl (gd 0 (by omega)) rfl))) (fun _=>(mc [[bx b3 (A2 ({Act.zero with kind:=39,n:=(d.n % 7)})) 26],[bx b2 (A2 Act.zero) 26],[bx b1 (I7 d) 41],vo D8 3 (⟨some b18,k21,j22⟩:VR) (([4,8,16,32,64,128]:List Int)++([3]:List Int))] [true,true,true,false] rfl (by first|rfl|(simp only [List.length_set]<;>rfl)))) (fun _=>(A1.pick [1,2] rfl)) fun _=>?_
  refine zhp [8] 1 (zml 10 511) [(34,pt b3 2)] ?_
  refine zho 9 [bx b2 (A2 Act.zero) 26,bx b1 (I7 d) 41] (zml 10 1023) rfl (M6 (us:=[iv ((([4,8,16,32,64,128]:List Int)++([3]:List Int)).getD ((d.m % 7).toNat) 0)]) (cs':=A2 ({Act.zero with kind:=39,n:=(d.n % 7),m:=((([4,8,16,32,64,128]:List Int)++([3]:List Int)).getD ((d.m % 7).toNat) 0)})) ty3 rfl rfl rfl 0 rfl rfl rfl rfl rfl rfl) (fun _=>(mc [[bx b3 (A2 ({Act.zero with kind:=39,n:=(d.n % 7),m:=((([4,8,16,32,64,128]:List Int)++([3]:List Int)).getD ((d.m % 7).toNat) 0)})) 26],[bx b2 (A2 Act.zero) 26],[bx b1 (I7 d) 41],vo D8 3 (⟨some b18,k21,j22⟩:VR) (([4,8,16,32,64,128]:List Int)++([3]:List Int))] [false,true,true,false] rfl (by first|rfl|(simp only [List.length_set]<;>rfl)))) (fun _=>(A1.pick [1,2] rfl)) fun _=>?_
  refine B8s (by kernel_rfl) ?_
  refine nx (sr 2 rfl (zrg 2 0 [0,1] [] (bx b3 (A2 ({Act.zero with kind:=39,n:=(d.n % 7),m:=((([4,8,16,32,64,128]:List Int)++([3]:List Int)).getD ((d.m % 7).toNat) 0)})) 26::bx b2 (A2 ({Act.zero with kind:=39,n:=(d.n % 7),m:=((([4,8,16,32,64,128]:List Int)++([3]:List Int)).getD ((d.m % 7).toNat) 0)})) 26::bx b1 (I7 d) 41::(vo D8 3 (⟨some b18,k21,j22⟩:VR) (([4,8,16,32,64,128]:List Int)++([3]:List Int)))++([])) ?_))
  subst hR
  refine ie (A5 ?_)
  exact zer hr hD (M4 rfl (D4 (us:=A2 ({Act.zero with kind:=39,n:=(d.n % 7),m:=((([4,8,16,32,64,128]:List Int)++([3]:List Int)).getD ((d.m % 7).toNat) 0)})) A1u rfl 1 rfl rfl rfl)) () (List.nil_sublist _) A1.nil
 refine sr 2 rfl (ip' 2 0 [(35,bv (decide ((d.n % 7)=3)))] ?_)
 refine ie ?_
 refine zjd rfl hR ?_ ?_<;>clear hR<;>intro hR h23 h23p
 ·refine A3 6 rfl (zrl 2 4 [3] [(38,.int .u16 d.m)] ?_)
  refine ix rfl (U9 (c:=(d.m % 6)) rfl rfl rfl (by decide) (by omega)) ?_
  refine ix rfl (N7 (c:=(d.m % 6)) Tryz.underlying3 (by kernel_rfl) rfl rfl (O7 (by first|(simp [IntKind.min,IntKind.signed,IntKind.bits];omega)|(simp [IntKind.max,IntKind.signed,IntKind.bits];omega)) (by first|(simp [IntKind.min,IntKind.signed,IntKind.bits];omega)|(simp [IntKind.max,IntKind.signed,IntKind.bits];omega)))) ?_
  refine zrg 2 0 [1] [] [bx b4 [iv 4,iv 8,iv 16,iv 32,iv 64,iv 128] 147,bx b3 (A2 ({Act.zero with kind:=39,n:=(d.n % 7),m:=(d.m % 6)})) 26,bx b2 (A2 Act.zero) 26,bx b1 (I7 d) 41] ?_
  refine A7 (nx (sr 2 rfl (zrg 2 0 [1,2] [] [bx b4 [iv 4,iv 8,iv 16,iv 32,iv 64,iv 128] 147,bx b3 (A2 ({Act.zero with kind:=39,n:=(d.n % 7),m:=(d.m % 6)})) 26,bx b2 (A2 ({Act.zero with kind:=39,n:=(d.n % 7),m:=(d.m % 6)})) 26,bx b1 (I7 d) 41] ?_)))
  subst hR
  refine ie (A5 ?_)
  exact zer hr hD (M4 rfl (D4 (us:=A2 ({Act.zero with kind:=39,n:=(d.n % 7),m:=(d.m % 6)})) A1u rfl 2 rfl rfl rfl)) () (mk [false,false,false,false] rfl) A1.nil
 refine B5y (fun (t42:Bool)=>(A1c d t42=R,[(1,pt b1 0),(2,pt b2 0),(3,pt b3 0),(42,bv t42)],[bx b4 [iv 4,iv 8,iv 16,iv 32,iv 64,iv 128] 147,bx b3 (A2 ({Act.zero with kind:=39,n:=(d.n % 7)})) 26,bx b2 (A2 Act.zero) 26,bx b1 (I7 d) 41],[])) ?_ ?_
 ·refine sr 2 rfl (ip' 2 0 [(42,bv (decide ((d.n % 7)=4)))] ?_)
  refine ie ?_
  refine zjd rfl hR ?_ ?_<;>clear hR<;>intro hR h24 h24p
  ·refine A6 ?_
   exact V4 (decide ((d.n % 7)=4)) hR (mk [true,true,true,true] rfl) A1.nil
  refine sr 2 rfl (ip' 2 0 [(42,bv (decide ((d.n % 7)=5)))] ?_)
  refine ie ?_
  refine zjd rfl hR ?_ ?_<;>clear hR<;>intro hR h25 h25p
  ·refine A6 ?_
   exact V4 (decide ((d.n % 7)=5)) hR (mk [true,true,true,true] rfl) A1.nil
  refine A3 2 rfl (ip' 2 0 [(42,bv (decide ((d.n % 7)=6)))] ?_)
  refine A7 ?_
  exact V4 (decide ((d.n % 7)=6)) hR (mk [true,true,true,true] rfl) A1.nil
 intro t42
 rintro hR
 replace hR:=(A1c.eq_1 ..).symm.trans hR
 refine zjb rfl hR ?_ ?_<;>clear hR<;>intro hR h26
 ·refine sr 3 rfl (zrl 2 1 [3] [(47,.int .u16 d.m)] ?_)
  refine ix rfl (U9 (c:=(d.m % 4)) rfl rfl rfl (by decide) (by omega)) ?_
  refine ie (B3 (sr 2 rfl (ip' 2 0 [(49,bv (decide ((d.m % 4)=1)))] ?_)))
  refine ie ?_
  refine zjd rfl hR ?_ ?_<;>clear hR<;>intro hR h27 h27p
  ·refine A3 7 rfl (zrl 2 5 [3] [(52,.int .u32 d.rgb)] ?_)
   refine ix rfl (U9 (c:=(d.rgb % 16777216)) rfl rfl rfl (by decide) (by omega)) ?_
   refine ix rfl (N7 (c:=(d.rgb % 16777216)) Tryz.underlying3 (by kernel_rfl) rfl rfl (O7 (by first|(simp [IntKind.min,IntKind.signed,IntKind.bits];omega)|(simp [IntKind.max,IntKind.signed,IntKind.bits];omega)) (by first|(simp [IntKind.min,IntKind.signed,IntKind.bits];omega)|(simp [IntKind.max,IntKind.signed,IntKind.bits];omega)))) ?_
   refine zrg 3 0 [1] [] [bx b4 [iv 4,iv 8,iv 16,iv 32,iv 64,iv 128] 147,bx b3 (A2 ({Act.zero with kind:=39,n:=(d.n % 7),color:=(⟨2,(d.rgb % 16777216)⟩:Col)})) 26,bx b2 (A2 Act.zero) 26,bx b1 (I7 d) 41] ?_
   refine A7 (nx (sr 2 rfl (zrg 2 0 [1,2] [] [bx b4 [iv 4,iv 8,iv 16,iv 32,iv 64,iv 128] 147,bx b3 (A2 ({Act.zero with kind:=39,n:=(d.n % 7),color:=(⟨2,(d.rgb % 16777216)⟩:Col)})) 26,bx b2 (A2 ({Act.zero with kind:=39,n:=(d.n % 7),color:=(⟨2,(d.rgb % 16777216)⟩:Col)})) 26,bx b1 (I7 d) 41] ?_)))
   subst hR
   refine ie (A5 ?_)
   exact zer hr hD (M4 rfl (D4 (us:=A2 ({Act.zero with kind:=39,n:=(d.n % 7),color:=(⟨2,(d.rgb % 16777216)⟩:Col)})) A1u rfl 2 rfl rfl rfl)) () (mk [false,false,false,false] rfl) A1.nil
  refine sr 2 rfl (ip' 2 0 [(57,bv (decide ((d.m % 4)=2)))] ?_)
  refine ie ?_
  refine zjd rfl hR ?_ ?_<;>clear hR<;>intro hR h28 h28p
  ·refine A3 7 rfl (zrl 2 5 [3] [(60,.int .u32 d.rgb)] ?_)
   refine ix rfl (U9 (c:=(d.rgb % 256)) rfl rfl rfl (by decide) (by omega)) ?_
   refine ix rfl (N7 (c:=(d.rgb % 256)) Tryz.underlying3 (by kernel_rfl) rfl rfl (O7 (by first|(simp [IntKind.min,IntKind.signed,IntKind.bits];omega)|(simp [IntKind.max,IntKind.signed,IntKind.bits];omega)) (by first|(simp [IntKind.min,IntKind.signed,IntKind.bits];omega)|(simp [IntKind.max,IntKind.signed,IntKind.bits];omega)))) ?_
   refine zrg 3 0 [1] [] [bx b4 [iv 4,iv 8,iv 16,iv 32,iv 64,iv 128] 147,bx b3 (A2 ({Act.zero with kind:=39,n:=(d.n % 7),color:=(⟨1,(d.rgb % 256)⟩:Col)})) 26,bx b2 (A2 Act.zero) 26,bx b1 (I7 d) 41] ?_
   refine A7 (nx (sr 2 rfl (zrg 2 0 [1,2] [] [bx b4 [iv 4,iv 8,iv 16,iv 32,iv 64,iv 128] 147,bx b3 (A2 ({Act.zero with kind:=39,n:=(d.n % 7),color:=(⟨1,(d.rgb % 256)⟩:Col)})) 26,bx b2 (A2 ({Act.zero with kind:=39,n:=(d.n % 7),color:=(⟨1,(d.rgb % 256)⟩:Col)})) 26,bx b1 (I7 d) 41] ?_)))
   subst hR
   refine ie (A5 ?_)
   exact zer hr hD (M4 rfl (D4 (us:=A2 ({Act.zero with kind:=39,n:=(d.n % 7),color:=(⟨1,(d.rgb % 256)⟩:Col)})) A1u rfl 2 rfl rfl rfl)) () (mk [false,false,false,false] rfl) A1.nil
  refine sr 2 rfl (ip' 2 0 [(65,bv (decide ((d.m % 4)=3)))] ?_)
  refine ie ?_
  refine zjd rfl hR ?_ ?_<;>clear hR<;>intro hR h29 h29p
  ·refine A3 7 rfl (zrl 2 5 [3] [(68,.int .u32 d.rgb)] ?_)
   refine ix rfl (U9 (c:=(d.rgb % 18)) rfl rfl rfl (by decide) (by omega)) ?_
   refine ix rfl (N7 (c:=(d.rgb % 18)) Tryz.underlying3 (by kernel_rfl) rfl rfl (O7 (by first|(simp [IntKind.min,IntKind.signed,IntKind.bits];omega)|(simp [IntKind.max,IntKind.signed,IntKind.bits];omega)) (by first|(simp [IntKind.min,IntKind.signed,IntKind.bits];omega)|(simp [IntKind.max,IntKind.signed,IntKind.bits];omega)))) ?_
   refine zrg 3 0 [1] [] [bx b4 [iv 4,iv 8,iv 16,iv 32,iv 64,iv 128] 147,bx b3 (A2 ({Act.zero with kind:=39,n:=(d.n % 7),color:=(⟨1,(d.rgb % 18)⟩:Col)})) 26,bx b2 (A2 Act.zero) 26,bx b1 (I7 d) 41] ?_
   refine A7 (nx (sr 2 rfl (zrg 2 0 [1,2] [] [bx b4 [iv 4,iv 8,iv 16,iv 32,iv 64,iv 128] 147,bx b3 (A2 ({Act.zero with kind:=39,n:=(d.n % 7),color:=(⟨1,(d.rgb % 18)⟩:Col)})) 26,bx b2 (A2 ({Act.zero with kind:=39,n:=(d.n % 7),color:=(⟨1,(d.rgb % 18)⟩:Col)})) 26,bx b1 (I7 d) 41] ?_)))
   subst hR
   refine ie (A5 ?_)
   exact zer hr hD (M4 rfl (D4 (us:=A2 ({Act.zero with kind:=39,n:=(d.n % 7),color:=(⟨1,(d.rgb % 18)⟩:Col)})) A1u rfl 2 rfl rfl rfl)) () (mk [false,false,false,false] rfl) A1.nil
  refine A6 (nx (sr 2 rfl (zrg 2 0 [1,2] [] [bx b4 [iv 4,iv 8,iv 16,iv 32,iv 64,iv 128] 147,bx b3 (A2 ({Act.zero with kind:=39,n:=(d.n % 7)})) 26,bx b2 (A2 ({Act.zero with kind:=39,n:=(d.n % 7)})) 26,bx b1 (I7 d) 41] ?_)))
  subst hR
  refine ie (A5 ?_)
  exact zer hr hD (M4 rfl (D4 (us:=A2 ({Act.zero with kind:=39,n:=(d.n % 7)})) A1u rfl 2 rfl rfl rfl)) () (mk [false,false,false,false] rfl) A1.nil
 refine A6 (nx (sr 2 rfl (zrg 2 0 [1,2] [] [bx b4 [iv 4,iv 8,iv 16,iv 32,iv 64,iv 128] 147,bx b3 (A2 ({Act.zero with kind:=39,n:=(d.n % 7)})) 26,bx b2 (A2 ({Act.zero with kind:=39,n:=(d.n % 7)})) 26,bx b1 (I7 d) 41] ?_)))
 subst hR
 refine ie (A5 ?_)
 exact zer hr hD (M4 rfl (D4 (us:=A2 ({Act.zero with kind:=39,n:=(d.n % 7)})) A1u rfl 2 rfl rfl rfl)) () (mk [false,false,false,false] rfl) A1.nil
def N0 (d:Drf) (i:Nat) (k:Nat) (ag_ref10_Draft_Action_l11:Nat→Act):Nat→Nat→Act
 | 0,_=>Act.zero
 | fu5+1,by_=>(bif (decide ((by_:Int)<5)) then (bif (F1 ({Act.zero with kind:=(IntKind.i64.wrap ((1:Int)+(d.kind % 46))),n:=(IntKind.i64.wrap ((Int.tmod d.n (([65536,10000,7,4,2]:List Int).getD i 0))+(by_:Int))),m:=(Int.tmod d.m (([65536,10000,7,4,2]:List Int).getD k 0))})) then {Act.zero with kind:=(IntKind.i64.wrap ((1:Int)+(d.kind % 46))),n:=(IntKind.i64.wrap ((Int.tmod d.n (([65536,10000,7,4,2]:List Int).getD i 0))+(by_:Int))),m:=(Int.tmod d.m (([65536,10000,7,4,2]:List Int).getD k 0))} else (bif (F1 ({Act.zero with kind:=(IntKind.i64.wrap ((1:Int)+(d.kind % 46))),n:=(IntKind.i64.wrap ((Int.tmod d.n (([65536,10000,7,4,2]:List Int).getD i 0))+(by_:Int))),m:=(IntKind.i64.wrap ((Int.tmod d.m (([65536,10000,7,4,2]:List Int).getD k 0))+(1:Int)))})) then {Act.zero with kind:=(IntKind.i64.wrap ((1:Int)+(d.kind % 46))),n:=(IntKind.i64.wrap ((Int.tmod d.n (([65536,10000,7,4,2]:List Int).getD i 0))+(by_:Int))),m:=(IntKind.i64.wrap ((Int.tmod d.m (([65536,10000,7,4,2]:List Int).getD k 0))+(1:Int)))} else (bif (F1 ({Act.zero with kind:=(IntKind.i64.wrap ((1:Int)+(d.kind % 46))),n:=(IntKind.i64.wrap ((Int.tmod d.n (([65536,10000,7,4,2]:List Int).getD i 0))+(by_:Int))),m:=0})) then {Act.zero with kind:=(IntKind.i64.wrap ((1:Int)+(d.kind % 46))),n:=(IntKind.i64.wrap ((Int.tmod d.n (([65536,10000,7,4,2]:List Int).getD i 0))+(by_:Int))),m:=0} else N0 d i k ag_ref10_Draft_Action_l11 fu5 (by_+1)))) else ag_ref10_Draft_Action_l11 (k+1))
def K6 (d:Drf) (i:Nat) (ag_ref10_Draft_Action_l8:Nat→Act):Nat→Nat→Act
 | 0,_=>Act.zero
 | fu3+1,k=>(bif (decide ((k:Int)<5)) then N0 d i k (K6 d i ag_ref10_Draft_Action_l8 fu3) ((5 - 0)+1) 0 else ag_ref10_Draft_Action_l8 (i+1))
def K1 (d:Drf):Nat→Nat→Act
 | 0,_=>Act.zero
 | fu1+1,i=>(bif (decide ((i:Int)<5)) then K6 d i (K1 d fu1) ((5 - 0)+1) 0 else {Act.zero with kind:=2})
def A0 (d:Drf):Act :=
 (bif ((decide ((IntKind.i64.wrap ((1:Int)+(d.kind % 46)))=44))||(decide ((IntKind.i64.wrap ((1:Int)+(d.kind % 46)))=46))) then (bif (!(F1 ({Act.zero with kind:=(IntKind.i64.wrap ((1:Int)+(d.kind % 46))),text:=(d.text.take ((if (300:Int)<(d.text.length:Int) then (300:Int) else (d.text.length:Int)).toNat))}))) then {Act.zero with kind:=(IntKind.i64.wrap ((1:Int)+(d.kind % 46))),text:=([116]:List UInt8)} else {Act.zero with kind:=(IntKind.i64.wrap ((1:Int)+(d.kind % 46))),text:=(d.text.take ((if (300:Int)<(d.text.length:Int) then (300:Int) else (d.text.length:Int)).toNat))}) else (bif (decide ((IntKind.i64.wrap ((1:Int)+(d.kind % 46)))=45)) then {Act.zero with kind:=(IntKind.i64.wrap ((1:Int)+(d.kind % 46))),n:=(d.n % 256),color:=(⟨2,(d.rgb % 16777216)⟩:Col)} else (bif (decide ((IntKind.i64.wrap ((1:Int)+(d.kind % 46)))=39)) then (A4a d) else K1 d ((5 - 0)+1) 0)))
theorem C4k (d:Drf):(A4a d).text=[]:=by
 unfold A4a A1c
 simp only [Bool.cond_eq_ite]
 repeat' split
 all_goals rfl
theorem A3g (d:Drf) (i k:Nat) (ag:Nat→Act) (hag:∀ x,(ag x).text=[]):∀ (fu b:Nat),(N0 d i k ag fu b).text=[]
 | 0,_=>rfl
 | fu+1,b=>by
  have ih:=A3g d i k ag hag fu (b+1)
  rw [N0]
  simp only [Bool.cond_eq_ite]
  repeat' split
  all_goals first|rfl|exact ih|exact hag _
theorem A3c (d:Drf) (i:Nat) (ag:Nat→Act) (hag:∀ x,(ag x).text=[]):∀ (fu k:Nat),(K6 d i ag fu k).text=[]
 | 0,_=>rfl
 | fu+1,k=>by
  rw [K6]
  simp only [Bool.cond_eq_ite]
  split
  ·exact A3g d i k _ (fun x=>A3c d i ag hag fu x) _ _
  ·exact hag _
theorem A3s (d:Drf):∀ (fu i:Nat),(K1 d fu i).text=[]
 | 0,_=>rfl
 | fu+1,i=>by
  rw [K1]
  simp only [Bool.cond_eq_ite]
  split
  ·exact A3c d i _ (fun x=>A3s d fu x) _ _
  ·rfl
theorem B2t (d:Drf):(A0 d).text.length≤300:=by
 have h8:=A3s d ((5 - 0)+1) 0
 have hp:=C4k d
 unfold A0
 simp only [Bool.cond_eq_ite]
 repeat' split
 all_goals first|(rw [h8];exact Nat.zero_le _)|(rw [hp];exact Nat.zero_le _)|exact Nat.zero_le _|(show ([116]:List UInt8).length≤300;decide)|(show (List.take _ _).length≤300;rw [List.length_take];split<;>omega)|(show (List.take _ _).length≤300;rw [List.length_take];omega)
theorem B4h (d:Drf) (hd:B6k d) (R:Act) (hR:A0 d=R):I4 Tryz.prog 19 [ag (I7 d)] [] (ag (A2 R)):=by
 refine zco Tryz.func19 [(0,ag (I7 d))] fun X hX hr hD=>?_
 replace hR:=(A0.eq_1 ..).symm.trans hR
 have hdi:=hd;unfold B6k at hdi
 refine sr 2 rfl (C2e 2 0 [] (fun b1 b2=>[(1,pt b1 0),(2,pt b2 0)]) (fun b1 b2=>[bx b2 (A2 Act.zero) 26,bx b1 (I7 d) 41]) (fun b1 b2=>?_))
 refine ie (sr 8 rfl (zrl 2 6 [1] [(10,.int .u16 d.kind)] ?_))
 refine ix rfl (U9 (c:=(d.kind % 46)) rfl rfl rfl (by decide) (by omega)) ?_
 refine ix rfl (N7 (c:=(d.kind % 46)) Tryz.underlying3 (by kernel_rfl) rfl rfl (O7 (by first|(simp [IntKind.min,IntKind.signed,IntKind.bits];omega)|(simp [IntKind.max,IntKind.signed,IntKind.bits];omega)) (by first|(simp [IntKind.min,IntKind.signed,IntKind.bits];omega)|(simp [IntKind.max,IntKind.signed,IntKind.bits];omega)))) ?_
 refine ix rfl (G4.pure rfl) ?_
 refine O2 3 0 [0] (fun b3=>[(3,pt b3 0)]) (fun b3=>[bx b3 (A2 ({Act.zero with kind:=(IntKind.i64.wrap ((1:Int)+(d.kind % 46)))})) 26,bx b2 (A2 Act.zero) 26,bx b1 (I7 d) 41]) (fun b3=>?_)
 refine ie (A9 (sr 8 rfl (zrl 4 4 [0] [(18,bv (decide ((IntKind.i64.wrap ((1:Int)+(d.kind % 46)))=44)))] ?_)))
 refine zir 4 0 18 22 (decide ((IntKind.i64.wrap ((1:Int)+(d.kind % 46)))=46)) (fun g4 g4p=>?_) ?_
 ·refine zrl 4 0 [0] [(22,bv (decide ((IntKind.i64.wrap ((1:Int)+(d.kind % 46)))=46)))] ?_
  exact A7 (M2 2 18 22 g4 A1.nil (mk [true,true,true] rfl) rfl rfl rfl rfl rfl)
 refine ie ?_
 refine zjo rfl hR ?_ ?_<;>clear hR<;>intro hR h5 h5p
 ·refine sr 9 rfl (zrl 6 3 [2,2] [(24,sv d.text),(28,iv (if (300:Int)<(d.text.length:Int) then (300:Int) else (d.text.length:Int)))] ?_)
  have:=C6w (d.text.length:Int) (300:Int)
  refine ix rfl (A5h (T:=9) Tryz.underlying9 rfl rfl rfl ((if (300:Int)<(d.text.length:Int) then (300:Int) else (d.text.length:Int)).toNat) (by omega) (by omega)) ?_
  refine zrg 2 0 [0] [] [bx b3 (A2 ({Act.zero with kind:=(IntKind.i64.wrap ((1:Int)+(d.kind % 46))),text:=(d.text.take ((if (300:Int)<(d.text.length:Int) then (300:Int) else (d.text.length:Int)).toNat))})) 26,bx b2 (A2 Act.zero) 26,bx b1 (I7 d) 41] ?_
  refine ie (A9 (sr 3 rfl (zrl 1 2 [0] [(31,ag (A2 ({Act.zero with kind:=(IntKind.i64.wrap ((1:Int)+(d.kind % 46))),text:=(d.text.take ((if (300:Int)<(d.text.length:Int) then (300:Int) else (d.text.length:Int)).toNat))})))] ?_)))
  refine zca (A4n ({Act.zero with kind:=(IntKind.i64.wrap ((1:Int)+(d.kind % 46))),text:=(d.text.take ((if (300:Int)<(d.text.length:Int) then (300:Int) else (d.text.length:Int)).toNat))}) _ rfl) A1.nil ?_
  refine ip' 1 0 [(33,bv (!(F1 ({Act.zero with kind:=(IntKind.i64.wrap ((1:Int)+(d.kind % 46))),text:=(d.text.take ((if (300:Int)<(d.text.length:Int) then (300:Int) else (d.text.length:Int)).toNat))}))))] ?_
  refine ie ?_
  refine zjb rfl hR ?_ ?_<;>clear hR<;>intro hR h6
  ·refine A3 2 rfl (zrg 2 0 [0] [] [bx b3 (A2 ({Act.zero with kind:=(IntKind.i64.wrap ((1:Int)+(d.kind % 46))),text:=([116]:List UInt8)})) 26,bx b2 (A2 Act.zero) 26,bx b1 (I7 d) 41] ?_)
   refine A7 (nx (sr 2 rfl (zrg 2 0 [0,1] [] [bx b3 (A2 ({Act.zero with kind:=(IntKind.i64.wrap ((1:Int)+(d.kind % 46))),text:=([116]:List UInt8)})) 26,bx b2 (A2 ({Act.zero with kind:=(IntKind.i64.wrap ((1:Int)+(d.kind % 46))),text:=([116]:List UInt8)})) 26,bx b1 (I7 d) 41] ?_)))
   subst hR
   refine ie (A5 ?_)
   exact zer hr hD (M4 rfl (D4 (us:=A2 ({Act.zero with kind:=(IntKind.i64.wrap ((1:Int)+(d.kind % 46))),text:=([116]:List UInt8)})) A1u rfl 1 rfl rfl rfl)) () (mk [false,false,false] rfl) A1.nil
  refine A6 (nx (sr 2 rfl (zrg 2 0 [0,1] [] [bx b3 (A2 ({Act.zero with kind:=(IntKind.i64.wrap ((1:Int)+(d.kind % 46))),text:=(d.text.take ((if (300:Int)<(d.text.length:Int) then (300:Int) else (d.text.length:Int)).toNat))})) 26,bx b2 (A2 ({Act.zero with kind:=(IntKind.i64.wrap ((1:Int)+(d.kind % 46))),text:=(d.text.take ((if (300:Int)<(d.text.length:Int) then (300:Int) else (d.text.length:Int)).toNat))})) 26,bx b1 (I7 d) 41] ?_)))
  subst hR
  refine ie (A5 ?_)
  exact zer hr hD (M4 rfl (D4 (us:=A2 ({Act.zero with kind:=(IntKind.i64.wrap ((1:Int)+(d.kind % 46))),text:=(d.text.take ((if (300:Int)<(d.text.length:Int) then (300:Int) else (d.text.length:Int)).toNat))})) A1u rfl 1 rfl rfl rfl)) () (mk [false,false,false] rfl) A1.nil
 refine A6 (nx (A9 (sr 3 rfl (zrl 3 0 [0] [(38,bv (decide ((IntKind.i64.wrap ((1:Int)+(d.kind % 46)))=45)))] ?_))))
 refine ie ?_
 refine zjd rfl hR ?_ ?_<;>clear hR<;>intro hR h7 h7p
 ·refine sh 13 [(10,[bx b3 (A2 ({Act.zero with kind:=(IntKind.i64.wrap ((1:Int)+(d.kind % 46)))})) 26]),(13,[bx b2 (A2 Act.zero) 26]),(13,[bx b1 (I7 d) 41])] [] [bx b3 (A2 ({Act.zero with kind:=(IntKind.i64.wrap ((1:Int)+(d.kind % 46)))})) 26,bx b2 (A2 Act.zero) 26,bx b1 (I7 d) 41] (zml 13 0) (by kernel_rfl) rfl (by kernel_rfl) (by kernel_rfl) (by kernel_rfl) (mk [true,true,true] rfl) A1.refl ?_
  refine zhp [0,4] 11 (zml 13 17) [(39,pt b1 1),(43,pt b1 3)] ?_
  refine zhl 1 [bx b3 (A2 ({Act.zero with kind:=(IntKind.i64.wrap ((1:Int)+(d.kind % 46)))})) 26,bx b2 (A2 Act.zero) 26,bx b1 (I7 d) 41] (zml 13 19) rfl (B6 (v:=.int .u16 d.n) D7x rfl rfl 2 rfl rfl) ?_
  refine zhk 2 (zml 13 23) rfl (U9 (c:=(d.n % 256)) rfl rfl rfl (by decide) (by omega)) ?_
  refine zhk 3 (zml 13 31) rfl (N7 (c:=(d.n % 256)) Tryz.underlying3 (by kernel_rfl) rfl rfl (O7 (by first|(simp [IntKind.min,IntKind.signed,IntKind.bits];omega)|(simp [IntKind.max,IntKind.signed,IntKind.bits];omega)) (by first|(simp [IntKind.min,IntKind.signed,IntKind.bits];omega)|(simp [IntKind.max,IntKind.signed,IntKind.bits];omega)))) ?_
  refine zhp [9] 7 (zml 13 543) [(48,pt b3 1)] ?_
  refine zhl 5 [bx b2 (A2 Act.zero) 26,bx b1 (I7 d) 41] (zml 13 575) rfl (B6 (v:=.int .u32 d.rgb) E5t rfl rfl 1 rfl rfl) ?_
  refine zhk 6 (zml 13 639) rfl (U9 (c:=(d.rgb % 16777216)) rfl rfl rfl (by decide) (by omega)) ?_
  refine zhk 7 (zml 13 767) rfl (N7 (c:=(d.rgb % 16777216)) Tryz.underlying3 (by kernel_rfl) rfl rfl (O7 (by first|(simp [IntKind.min,IntKind.signed,IntKind.bits];omega)|(simp [IntKind.max,IntKind.signed,IntKind.bits];omega)) (by first|(simp [IntKind.min,IntKind.signed,IntKind.bits];omega)|(simp [IntKind.max,IntKind.signed,IntKind.bits];omega)))) ?_
  refine zhk 8 (zml 13 1023) rfl (C6l (cs:=L9 (⟨2,(d.rgb % 16777216)⟩:Col)) rfl rfl (by kernel_rfl)) ?_
  refine zho 10 [bx b2 (A2 Act.zero) 26,bx b1 (I7 d) 41] (zml 13 2047) rfl (M6 (us:=[iv (d.n % 256)]) (cs':=A2 ({Act.zero with kind:=(IntKind.i64.wrap ((1:Int)+(d.kind % 46))),n:=(d.n % 256)})) ty3 rfl rfl rfl 0 rfl rfl rfl rfl rfl rfl) (fun _=>(mk [false,true,true] rfl)) (fun _=>A1.nil) fun _=>?_
  refine zhp [11] 1 (zml 13 4095) [(49,pt b3 3)] ?_
  refine zho 12 [bx b2 (A2 Act.zero) 26,bx b1 (I7 d) 41] (zml 13 8191) rfl (M6 (us:=L9 (⟨2,(d.rgb % 16777216)⟩:Col)) (cs':=A2 ({Act.zero with kind:=(IntKind.i64.wrap ((1:Int)+(d.kind % 46))),n:=(d.n % 256),color:=(⟨2,(d.rgb % 16777216)⟩:Col)})) B6b rfl rfl rfl 0 rfl rfl rfl rfl rfl rfl) (fun _=>(mk [false,true,true] rfl)) (fun _=>A1.nil) fun _=>?_
  refine A6h (by kernel_rfl) ?_
  refine sr 2 rfl (zrg 2 0 [0,1] [] [bx b3 (A2 ({Act.zero with kind:=(IntKind.i64.wrap ((1:Int)+(d.kind % 46))),n:=(d.n % 256),color:=(⟨2,(d.rgb % 16777216)⟩:Col)})) 26,bx b2 (A2 ({Act.zero with kind:=(IntKind.i64.wrap ((1:Int)+(d.kind % 46))),n:=(d.n % 256),color:=(⟨2,(d.rgb % 16777216)⟩:Col)})) 26,bx b1 (I7 d) 41] ?_)
  subst hR
  refine ie (A5 ?_)
  exact zer hr hD (M4 rfl (D4 (us:=A2 ({Act.zero with kind:=(IntKind.i64.wrap ((1:Int)+(d.kind % 46))),n:=(d.n % 256),color:=(⟨2,(d.rgb % 16777216)⟩:Col)})) A1u rfl 1 rfl rfl rfl)) () (mk [false,false,false] rfl) A1.nil
 refine A6 (nx (A9 (sr 3 rfl (zrl 3 0 [0] [(53,bv (decide ((IntKind.i64.wrap ((1:Int)+(d.kind % 46)))=39)))] ?_))))
 refine ie ?_
 refine zjd rfl hR ?_ ?_<;>clear hR<;>intro hR h8 h8p
 ·refine sr 3 rfl (zrl 1 2 [2] [(54,ag (I7 d))] ?_)
  refine zca (C8z d (by first|assumption|(exact hdl _ (List.getElem_mem (by omega)))|(rw [gdE (by omega)];exact hdl _ (List.getElem_mem (by omega)))) _ rfl) A1.nil ?_
  refine zrg 1 0 [1] [] [bx b3 (A2 ({Act.zero with kind:=(IntKind.i64.wrap ((1:Int)+(d.kind % 46)))})) 26,bx b2 (A2 (A4a d)) 26,bx b1 (I7 d) 41] ?_
  subst hR
  refine ie (A5 ?_)
  exact zer hr hD (M4 rfl (D4 (us:=A2 (A4a d)) A1u rfl 1 rfl rfl rfl)) () (mk [false,false,false] rfl) A1.nil
 refine A6 (nx (sr 3 rfl (O2 3 0 [0] (fun b9=>[(4,pt b9 0)]) (fun b9=>[bx b9 [iv 65536,iv 10000,iv 7,iv 4,iv 2] 85,bx b3 (A2 ({Act.zero with kind:=(IntKind.i64.wrap ((1:Int)+(d.kind % 46)))})) 26,bx b2 (A2 Act.zero) 26,bx b1 (I7 d) 41]) (fun b9=>?_))))
 refine ie (A9 (sr 1 rfl (ip' 1 0 [(5,iv 0)] ?_)))
 refine ie (B3 (C4d (fun (fu:Nat) (i:Nat)=>((5 - i)<fu∧K1 d fu i=R,[(1,pt b1 0),(2,pt b2 0),(3,pt b3 0),(4,pt b9 0),(5,iv (i:Int))],[bx b9 [iv 65536,iv 10000,iv 7,iv 4,iv 2] 85,bx b3 (A2 ({Act.zero with kind:=(IntKind.i64.wrap ((1:Int)+(d.kind % 46)))})) 26,bx b2 (A2 Act.zero) 26,bx b1 (I7 d) 41],[],fu)) ((5 - 0)+1) 0 ⟨(Nat.lt_succ_self _),hR⟩ (mk [true,true,true,true] rfl) A1.nil ?_))
 rintro fu i ⟨hm10,hR⟩
 obtain ⟨fu1,rfl⟩:∃ m,fu=m+1:=⟨fu - 1,by omega⟩
 replace hR:=(K1.eq_2 ..).symm.trans hR
 refine A9 (sr 2 rfl (ip' 2 0 [(58,bv (decide ((i:Int)<5)))] ?_))
 refine ie ?_
 refine zjd rfl hR ?_ ?_<;>clear hR<;>intro hR h11 h11p
 ·refine A6 (nx (A9 (B3 (sr 1 rfl (ip' 1 0 [(6,iv 0)] ?_)))))
  refine ie (B3 (C4d (fun (fu2:Nat) (k:Nat)=>((5 - k)<fu2∧K6 d i (K1 d fu1) fu2 k=R,[(1,pt b1 0),(2,pt b2 0),(3,pt b3 0),(4,pt b9 0),(5,iv (i:Int)),(6,iv (k:Int))],[bx b9 [iv 65536,iv 10000,iv 7,iv 4,iv 2] 85,bx b3 (A2 ({Act.zero with kind:=(IntKind.i64.wrap ((1:Int)+(d.kind % 46)))})) 26,bx b2 (A2 Act.zero) 26,bx b1 (I7 d) 41],[],fu2)) ((5 - 0)+1) 0 ⟨(Nat.lt_succ_self _),hR⟩ (mk [true,true,true,true] rfl) A1.nil ?_))
  rintro fu2 k ⟨hm12,hR⟩
  obtain ⟨fu3,rfl⟩:∃ m,fu2=m+1:=⟨fu2 - 1,by omega⟩
  replace hR:=(K6.eq_2 ..).symm.trans hR
  refine A9 (sr 2 rfl (ip' 2 0 [(62,bv (decide ((k:Int)<5)))] ?_))
  refine ie ?_
  refine zjd rfl hR ?_ ?_<;>clear hR<;>intro hR h13 h13p
  ·refine A6 (nx (A9 (B3 (sr 1 rfl (ip' 1 0 [(7,iv 0)] ?_)))))
   refine ie (B3 (C4d (fun (fu4:Nat) (by_:Nat)=>((5 - by_)<fu4∧N0 d i k (K6 d i (K1 d fu1) fu3) fu4 by_=R,[(1,pt b1 0),(2,pt b2 0),(3,pt b3 0),(4,pt b9 0),(5,iv (i:Int)),(6,iv (k:Int)),(7,iv (by_:Int))],[bx b9 [iv 65536,iv 10000,iv 7,iv 4,iv 2] 85,bx b3 (A2 ({Act.zero with kind:=(IntKind.i64.wrap ((1:Int)+(d.kind % 46)))})) 26,bx b2 (A2 Act.zero) 26,bx b1 (I7 d) 41],[],fu4)) ((5 - 0)+1) 0 ⟨(Nat.lt_succ_self _),hR⟩ (mk [true,true,true,true] rfl) A1.nil ?_))
   rintro fu4 by_ ⟨hm14,hR⟩
   obtain ⟨fu5,rfl⟩:∃ m,fu4=m+1:=⟨fu4 - 1,by omega⟩
   replace hR:=(N0.eq_2 ..).symm.trans hR
   refine A9 (sr 2 rfl (ip' 2 0 [(66,bv (decide ((by_:Int)<5)))] ?_))
   refine ie ?_
   refine zjd rfl hR ?_ ?_<;>clear hR<;>intro hR h15 h15p
   ·refine A6 (nx (A9 (B3 (sr 3 rfl (O2 3 0 [1,0] (fun b16=>[(8,pt b16 0)]) (fun b16=>[bx b16 (A2 ({Act.zero with kind:=(IntKind.i64.wrap ((1:Int)+(d.kind % 46)))})) 26,bx b9 [iv 65536,iv 10000,iv 7,iv 4,iv 2] 85,bx b3 (A2 ({Act.zero with kind:=(IntKind.i64.wrap ((1:Int)+(d.kind % 46)))})) 26,bx b2 (A2 Act.zero) 26,bx b1 (I7 d) 41]) (fun b16=>?_))))))
    refine ie (sh 20 [(17,[bx b16 (A2 ({Act.zero with kind:=(IntKind.i64.wrap ((1:Int)+(d.kind % 46)))})) 26]),(20,[bx b9 [iv 65536,iv 10000,iv 7,iv 4,iv 2] 85]),(20,[bx b3 (A2 ({Act.zero with kind:=(IntKind.i64.wrap ((1:Int)+(d.kind % 46)))})) 26]),(20,[bx b2 (A2 Act.zero) 26]),(20,[bx b1 (I7 d) 41])] [] [bx b16 (A2 ({Act.zero with kind:=(IntKind.i64.wrap ((1:Int)+(d.kind % 46)))})) 26,bx b9 [iv 65536,iv 10000,iv 7,iv 4,iv 2] 85,bx b3 (A2 ({Act.zero with kind:=(IntKind.i64.wrap ((1:Int)+(d.kind % 46)))})) 26,bx b2 (A2 Act.zero) 26,bx b1 (I7 d) 41] (zml 20 0) (by kernel_rfl) rfl (by kernel_rfl) (by kernel_rfl) (by kernel_rfl) (mk [true,true,true,true,true] rfl) A1.refl ?_)
    refine zhp [0,3,7,9,12] 15 (zml 20 4745) [(70,pt b1 1),(73,iv (i:Int)),(77,iv (by_:Int)),(79,pt b1 2),(82,iv (k:Int))] ?_
    refine zhl 1 [bx b16 (A2 ({Act.zero with kind:=(IntKind.i64.wrap ((1:Int)+(d.kind % 46)))})) 26,bx b9 [iv 65536,iv 10000,iv 7,iv 4,iv 2] 85,bx b3 (A2 ({Act.zero with kind:=(IntKind.i64.wrap ((1:Int)+(d.kind % 46)))})) 26,bx b2 (A2 Act.zero) 26,bx b1 (I7 d) 41] (zml 20 4747) rfl (B6 (v:=.int .u16 d.n) D7x rfl rfl 4 rfl rfl) ?_
    refine zhk 2 (zml 20 4751) rfl (N7 (c:=d.n) Tryz.underlying3 (by kernel_rfl) rfl rfl (O7 (by first|(simp [IntKind.min,IntKind.signed,IntKind.bits];omega)|(simp [IntKind.max,IntKind.signed,IntKind.bits];omega)) (by first|(simp [IntKind.min,IntKind.signed,IntKind.bits];omega)|(simp [IntKind.max,IntKind.signed,IntKind.bits];omega)))) ?_
    refine zhl 4 [bx b16 (A2 ({Act.zero with kind:=(IntKind.i64.wrap ((1:Int)+(d.kind % 46)))})) 26,bx b9 [iv 65536,iv 10000,iv 7,iv 4,iv 2] 85,bx b3 (A2 ({Act.zero with kind:=(IntKind.i64.wrap ((1:Int)+(d.kind % 46)))})) 26,bx b2 (A2 Act.zero) 26,bx b1 (I7 d) 41] (zml 20 4767) rfl (U5 Tryz.underlying85 ty3 rfl rfl rfl i rfl (by omega)) ?_
    refine zhl 5 [bx b16 (A2 ({Act.zero with kind:=(IntKind.i64.wrap ((1:Int)+(d.kind % 46)))})) 26,bx b9 [iv 65536,iv 10000,iv 7,iv 4,iv 2] 85,bx b3 (A2 ({Act.zero with kind:=(IntKind.i64.wrap ((1:Int)+(d.kind % 46)))})) 26,bx b2 (A2 Act.zero) 26,bx b1 (I7 d) 41] (zml 20 4799) rfl (N6 (u:=iv (([65536,10000,7,4,2]:List Int).getD i 0)) (c:=D8) (xs:=([65536,10000,7,4,2]:List Int)) (j:=[]) (sz:=1) ty3 (fun _=>rfl) rfl rfl 1 rfl i 0 rfl (gd 0 (by simp only [List.length_cons,List.length_nil];omega)) rfl) ?_
    refine zhk 6 (zml 20 4863) rfl (B0m rfl rfl rfl (by first|omega|exact D4b (by decide) (by first|omega|(simp<;>omega))|omega) rfl) ?_
    refine zhk 8 (zml 20 5119) rfl (G4.pure rfl) ?_
    refine zhp [16] 8 (zml 20 70655) [(86,pt b16 1)] ?_
    refine zhl 10 [bx b9 [iv 65536,iv 10000,iv 7,iv 4,iv 2] 85,bx b3 (A2 ({Act.zero with kind:=(IntKind.i64.wrap ((1:Int)+(d.kind % 46)))})) 26,bx b2 (A2 Act.zero) 26,bx b1 (I7 d) 41] (zml 20 71679) rfl (B6 (v:=.int .u16 d.m) D7x rfl rfl 3 rfl rfl) ?_
    refine zhk 11 (zml 20 73727) rfl (N7 (c:=d.m) Tryz.underlying3 (by kernel_rfl) rfl rfl (O7 (by first|(simp [IntKind.min,IntKind.signed,IntKind.bits];omega)|(simp [IntKind.max,IntKind.signed,IntKind.bits];omega)) (by first|(simp [IntKind.min,IntKind.signed,IntKind.bits];omega)|(simp [IntKind.max,IntKind.signed,IntKind.bits];omega)))) ?_
    refine zhl 13 [bx b9 [iv 65536,iv 10000,iv 7,iv 4,iv 2] 85,bx b3 (A2 ({Act.zero with kind:=(IntKind.i64.wrap ((1:Int)+(d.kind % 46)))})) 26,bx b2 (A2 Act.zero) 26,bx b1 (I7 d) 41] (zml 20 81919) rfl (U5 Tryz.underlying85 ty3 rfl rfl rfl k rfl (by omega)) ?_
    refine zhl 14 [bx b9 [iv 65536,iv 10000,iv 7,iv 4,iv 2] 85,bx b3 (A2 ({Act.zero with kind:=(IntKind.i64.wrap ((1:Int)+(d.kind % 46)))})) 26,bx b2 (A2 Act.zero) 26,bx b1 (I7 d) 41] (zml 20 98303) rfl (N6 (u:=iv (([65536,10000,7,4,2]:List Int).getD k 0)) (c:=D8) (xs:=([65536,10000,7,4,2]:List Int)) (j:=[]) (sz:=1) ty3 (fun _=>rfl) rfl rfl 0 rfl k 0 rfl (gd 0 (by simp only [List.length_cons,List.length_nil];omega)) rfl) ?_
    refine zhk 15 (zml 20 131071) rfl (B0m rfl rfl rfl (by first|omega|exact D4b (by decide) (by first|omega|(simp<;>omega))|omega) rfl) ?_
    refine zho 17 [bx b9 [iv 65536,iv 10000,iv 7,iv 4,iv 2] 85,bx b3 (A2 ({Act.zero with kind:=(IntKind.i64.wrap ((1:Int)+(d.kind % 46)))})) 26,bx b2 (A2 Act.zero) 26,bx b1 (I7 d) 41] (zml 20 262143) rfl (M6 (us:=[iv (IntKind.i64.wrap ((Int.tmod d.n (([65536,10000,7,4,2]:List Int).getD i 0))+(by_:Int)))]) (cs':=A2 ({Act.zero with kind:=(IntKind.i64.wrap ((1:Int)+(d.kind % 46))),n:=(IntKind.i64.wrap ((Int.tmod d.n (([65536,10000,7,4,2]:List Int).getD i 0))+(by_:Int)))})) ty3 rfl rfl rfl 0 rfl rfl rfl rfl rfl rfl) (fun _=>(mk [false,true,true,true,true] rfl)) (fun _=>A1.nil) fun _=>?_
    refine zhp [18] 1 (zml 20 524287) [(87,pt b16 2)] ?_
    refine zho 19 [bx b9 [iv 65536,iv 10000,iv 7,iv 4,iv 2] 85,bx b3 (A2 ({Act.zero with kind:=(IntKind.i64.wrap ((1:Int)+(d.kind % 46)))})) 26,bx b2 (A2 Act.zero) 26,bx b1 (I7 d) 41] (zml 20 1048575) rfl (M6 (us:=[iv (Int.tmod d.m (([65536,10000,7,4,2]:List Int).getD k 0))]) (cs':=A2 ({Act.zero with kind:=(IntKind.i64.wrap ((1:Int)+(d.kind % 46))),n:=(IntKind.i64.wrap ((Int.tmod d.n (([65536,10000,7,4,2]:List Int).getD i 0))+(by_:Int))),m:=(Int.tmod d.m (([65536,10000,7,4,2]:List Int).getD k 0))})) ty3 rfl rfl rfl 0 rfl rfl rfl rfl rfl rfl) (fun _=>(mk [false,true,true,true,true] rfl)) (fun _=>A1.nil) fun _=>?_
    refine A6h (by kernel_rfl) ?_
    refine A9 (sr 2 rfl (zrl 1 1 [0] [(88,ag (A2 ({Act.zero with kind:=(IntKind.i64.wrap ((1:Int)+(d.kind % 46))),n:=(IntKind.i64.wrap ((Int.tmod d.n (([65536,10000,7,4,2]:List Int).getD i 0))+(by_:Int))),m:=(Int.tmod d.m (([65536,10000,7,4,2]:List Int).getD k 0))})))] ?_))
    refine zca (A4n ({Act.zero with kind:=(IntKind.i64.wrap ((1:Int)+(d.kind % 46))),n:=(IntKind.i64.wrap ((Int.tmod d.n (([65536,10000,7,4,2]:List Int).getD i 0))+(by_:Int))),m:=(Int.tmod d.m (([65536,10000,7,4,2]:List Int).getD k 0))}) _ rfl) A1.nil ?_
    refine ie ?_
    refine zjb rfl hR ?_ ?_<;>clear hR<;>intro hR h17
    ·refine sr 2 rfl (zrg 2 0 [0,3] [] [bx b16 (A2 ({Act.zero with kind:=(IntKind.i64.wrap ((1:Int)+(d.kind % 46))),n:=(IntKind.i64.wrap ((Int.tmod d.n (([65536,10000,7,4,2]:List Int).getD i 0))+(by_:Int))),m:=(Int.tmod d.m (([65536,10000,7,4,2]:List Int).getD k 0))})) 26,bx b9 [iv 65536,iv 10000,iv 7,iv 4,iv 2] 85,bx b3 (A2 ({Act.zero with kind:=(IntKind.i64.wrap ((1:Int)+(d.kind % 46)))})) 26,bx b2 (A2 ({Act.zero with kind:=(IntKind.i64.wrap ((1:Int)+(d.kind % 46))),n:=(IntKind.i64.wrap ((Int.tmod d.n (([65536,10000,7,4,2]:List Int).getD i 0))+(by_:Int))),m:=(Int.tmod d.m (([65536,10000,7,4,2]:List Int).getD k 0))})) 26,bx b1 (I7 d) 41] ?_)
     subst hR
     refine ie (A5 ?_)
     exact zer hr hD (M4 rfl (D4 (us:=A2 ({Act.zero with kind:=(IntKind.i64.wrap ((1:Int)+(d.kind % 46))),n:=(IntKind.i64.wrap ((Int.tmod d.n (([65536,10000,7,4,2]:List Int).getD i 0))+(by_:Int))),m:=(Int.tmod d.m (([65536,10000,7,4,2]:List Int).getD k 0))})) A1u rfl 3 rfl rfl rfl)) () (mk [false,false,false,false,false] rfl) A1.nil
    refine A6 (nx (sr 5 rfl (zrl 2 3 [0] [(92,iv (Int.tmod d.m (([65536,10000,7,4,2]:List Int).getD k 0)))] ?_)))
    refine ix rfl (G4.pure rfl) ?_
    refine zrg 2 0 [0] [] [bx b16 (A2 ({Act.zero with kind:=(IntKind.i64.wrap ((1:Int)+(d.kind % 46))),n:=(IntKind.i64.wrap ((Int.tmod d.n (([65536,10000,7,4,2]:List Int).getD i 0))+(by_:Int))),m:=(IntKind.i64.wrap ((Int.tmod d.m (([65536,10000,7,4,2]:List Int).getD k 0))+(1:Int)))})) 26,bx b9 [iv 65536,iv 10000,iv 7,iv 4,iv 2] 85,bx b3 (A2 ({Act.zero with kind:=(IntKind.i64.wrap ((1:Int)+(d.kind % 46)))})) 26,bx b2 (A2 Act.zero) 26,bx b1 (I7 d) 41] ?_
    refine ie (A9 (sr 2 rfl (zrl 1 1 [0] [(95,ag (A2 ({Act.zero with kind:=(IntKind.i64.wrap ((1:Int)+(d.kind % 46))),n:=(IntKind.i64.wrap ((Int.tmod d.n (([65536,10000,7,4,2]:List Int).getD i 0))+(by_:Int))),m:=(IntKind.i64.wrap ((Int.tmod d.m (([65536,10000,7,4,2]:List Int).getD k 0))+(1:Int)))})))] ?_)))
    refine zca (A4n ({Act.zero with kind:=(IntKind.i64.wrap ((1:Int)+(d.kind % 46))),n:=(IntKind.i64.wrap ((Int.tmod d.n (([65536,10000,7,4,2]:List Int).getD i 0))+(by_:Int))),m:=(IntKind.i64.wrap ((Int.tmod d.m (([65536,10000,7,4,2]:List Int).getD k 0))+(1:Int)))}) _ rfl) A1.nil ?_
    refine ie ?_
    refine zjb rfl hR ?_ ?_<;>clear hR<;>intro hR h18
    ·refine sr 2 rfl (zrg 2 0 [0,3] [] [bx b16 (A2 ({Act.zero with kind:=(IntKind.i64.wrap ((1:Int)+(d.kind % 46))),n:=(IntKind.i64.wrap ((Int.tmod d.n (([65536,10000,7,4,2]:List Int).getD i 0))+(by_:Int))),m:=(IntKind.i64.wrap ((Int.tmod d.m (([65536,10000,7,4,2]:List Int).getD k 0))+(1:Int)))})) 26,bx b9 [iv 65536,iv 10000,iv 7,iv 4,iv 2] 85,bx b3 (A2 ({Act.zero with kind:=(IntKind.i64.wrap ((1:Int)+(d.kind % 46)))})) 26,bx b2 (A2 ({Act.zero with kind:=(IntKind.i64.wrap ((1:Int)+(d.kind % 46))),n:=(IntKind.i64.wrap ((Int.tmod d.n (([65536,10000,7,4,2]:List Int).getD i 0))+(by_:Int))),m:=(IntKind.i64.wrap ((Int.tmod d.m (([65536,10000,7,4,2]:List Int).getD k 0))+(1:Int)))})) 26,bx b1 (I7 d) 41] ?_)
     subst hR
     refine ie (A5 ?_)
     exact zer hr hD (M4 rfl (D4 (us:=A2 ({Act.zero with kind:=(IntKind.i64.wrap ((1:Int)+(d.kind % 46))),n:=(IntKind.i64.wrap ((Int.tmod d.n (([65536,10000,7,4,2]:List Int).getD i 0))+(by_:Int))),m:=(IntKind.i64.wrap ((Int.tmod d.m (([65536,10000,7,4,2]:List Int).getD k 0))+(1:Int)))})) A1u rfl 3 rfl rfl rfl)) () (mk [false,false,false,false,false] rfl) A1.nil
    refine A6 (nx (sr 2 rfl (zrg 2 0 [0] [] [bx b16 (A2 ({Act.zero with kind:=(IntKind.i64.wrap ((1:Int)+(d.kind % 46))),n:=(IntKind.i64.wrap ((Int.tmod d.n (([65536,10000,7,4,2]:List Int).getD i 0))+(by_:Int))),m:=0})) 26,bx b9 [iv 65536,iv 10000,iv 7,iv 4,iv 2] 85,bx b3 (A2 ({Act.zero with kind:=(IntKind.i64.wrap ((1:Int)+(d.kind % 46)))})) 26,bx b2 (A2 Act.zero) 26,bx b1 (I7 d) 41] ?_)))
    refine ie (sr 2 rfl (zrl 1 1 [0] [(99,ag (A2 ({Act.zero with kind:=(IntKind.i64.wrap ((1:Int)+(d.kind % 46))),n:=(IntKind.i64.wrap ((Int.tmod d.n (([65536,10000,7,4,2]:List Int).getD i 0))+(by_:Int))),m:=0})))] ?_))
    refine zca (A4n ({Act.zero with kind:=(IntKind.i64.wrap ((1:Int)+(d.kind % 46))),n:=(IntKind.i64.wrap ((Int.tmod d.n (([65536,10000,7,4,2]:List Int).getD i 0))+(by_:Int))),m:=0}) _ rfl) A1.nil ?_
    refine ie ?_
    refine zjb rfl hR ?_ ?_<;>clear hR<;>intro hR h19
    ·refine sr 2 rfl (zrg 2 0 [0,3] [] [bx b16 (A2 ({Act.zero with kind:=(IntKind.i64.wrap ((1:Int)+(d.kind % 46))),n:=(IntKind.i64.wrap ((Int.tmod d.n (([65536,10000,7,4,2]:List Int).getD i 0))+(by_:Int))),m:=0})) 26,bx b9 [iv 65536,iv 10000,iv 7,iv 4,iv 2] 85,bx b3 (A2 ({Act.zero with kind:=(IntKind.i64.wrap ((1:Int)+(d.kind % 46)))})) 26,bx b2 (A2 ({Act.zero with kind:=(IntKind.i64.wrap ((1:Int)+(d.kind % 46))),n:=(IntKind.i64.wrap ((Int.tmod d.n (([65536,10000,7,4,2]:List Int).getD i 0))+(by_:Int))),m:=0})) 26,bx b1 (I7 d) 41] ?_)
     subst hR
     refine ie (A5 ?_)
     exact zer hr hD (M4 rfl (D4 (us:=A2 ({Act.zero with kind:=(IntKind.i64.wrap ((1:Int)+(d.kind % 46))),n:=(IntKind.i64.wrap ((Int.tmod d.n (([65536,10000,7,4,2]:List Int).getD i 0))+(by_:Int))),m:=0})) A1u rfl 3 rfl rfl rfl)) () (mk [false,false,false,false,false] rfl) A1.nil
    refine A6 (nx (A3 3 rfl (ip' 1 2 [(67,iv (by_:Int))] ?_)))
    refine ix rfl (B7 rfl rfl rfl rfl (by omega)) ?_
    refine ip' 1 0 [(7,iv ((by_:Int)+1))] ?_
    refine A7 ?_
    exact C3t (z1:=(fu5+1)) (z2:=by_) fu5 (by_+1) ⟨(by omega),hR⟩ (Nat.lt_succ_self _) (mk [false,true,true,true,true] rfl) A1.nil
   refine H7 (nx (A3 3 rfl (ip' 1 2 [(63,iv (k:Int))] ?_)))
   refine ix rfl (B7 rfl rfl rfl rfl (by omega)) ?_
   refine ip' 1 0 [(6,iv ((k:Int)+1))] ?_
   refine A7 ?_
   exact C3t (z1:=(fu3+1)) (z2:=k) fu3 (k+1) ⟨(by omega),hR⟩ (Nat.lt_succ_self _) (mk [true,true,true,true] rfl) A1.nil
  refine H7 (nx (A3 3 rfl (ip' 1 2 [(59,iv (i:Int))] ?_)))
  refine ix rfl (B7 rfl rfl rfl rfl (by omega)) ?_
  refine ip' 1 0 [(5,iv ((i:Int)+1))] ?_
  refine A7 ?_
  exact C3t (z1:=(fu1+1)) (z2:=i) fu1 (i+1) ⟨(by omega),hR⟩ (Nat.lt_succ_self _) (mk [true,true,true,true] rfl) A1.nil
 refine H7 (nx (sr 2 rfl (zrg 2 0 [2] [] [bx b9 [iv 65536,iv 10000,iv 7,iv 4,iv 2] 85,bx b3 (A2 ({Act.zero with kind:=(IntKind.i64.wrap ((1:Int)+(d.kind % 46)))})) 26,bx b2 (A2 ({Act.zero with kind:=2})) 26,bx b1 (I7 d) 41] ?_)))
 subst hR
 refine ie (A5 ?_)
 exact zer hr hD (M4 rfl (D4 (us:=A2 ({Act.zero with kind:=2})) A1u rfl 2 rfl rfl rfl)) () (mk [false,false,false,false] rfl) A1.nil
end Go.Proofs.YtanighkpfmgnbaaGreatDoor
set_option linter.unusedVariables false
set_option linter.unusedSimpArgs false
set_option linter.unnecessarySimpa false
set_option maxRecDepth 100000
namespace Go.Proofs.YtanighkpfmgnbaaGreatDoor
open Go Go.Fen
def C0l:List UInt8:=[27,91,72,27,91,53,72,27,91,59,53,72,27,91,50,59,51,72]
def B8c:List UInt8:=[27,91,67,27,91,55,67,27,91,74,27,91,50,74]
def C4m:List UInt8:=[27,91,63,50,53,104,27,91,48,36,112,27,91,59,52,114,27,91,32,113]
theorem C7j:Zero Tryz.prog 26 (A2 Act.zero):=⟨by kernel_rfl⟩
def B2m (a:Act):List UInt8×Int :=
 (C0 (A0h ([a]:List Act)) fun (y2:List UInt8×Int)=>(y2.1,y2.2))
theorem C3q (a:Act) (hs:a.text.length≤100000000) (R:List UInt8×Int) (hR:B2m a=R):Con Tryz.prog 20 [ag (A2 a)] [] [B3z,B3x,P6,P2,L5,R7] ({r:VR // VOk 1 R.1.length r}) (fun x=>.tuple #[.slice (va x.1.q) R.1.length x.1.k,iv R.2]) (fun x=>((vo cU8 5 x.1 R.1)++([]))) (fun x=>[]):=by
 refine zco Tryz.func20 [(0,ag (A2 a))] fun X hX hr hD=>?_
 replace hR:=(B2m.eq_1 ..).symm.trans hR
 refine sr 3 rfl (O2 3 0 [] (fun b1=>[(1,pt b1 0)]) (fun b1=>[bx b1 (A2 a) 26]) (fun b1=>?_))
 refine ie (sr 7 rfl (zrl 1 6 [0] [(4,ag (A2 a))] ?_))
 refine it rfl (B5 (c:=A2) (xs:=([a]:List Act)) A5u rfl rfl rfl (by kernel_rfl)) fun b2=>?_
 have:([a]:List Act).length=1:=rfl
 have hQ:=C3 hR;clear hR;obtain ⟨y2,hy2,hR⟩:=hQ
 refine it rfl (B2n (L2:=[bx b1 (A2 a) 26]) (B8e ([a]:List Act) (some ⟨b2,0,none⟩) 1 (by first|omega|(simp<;>omega)|(dsimp only;omega)|decide) (by first|omega|(simp<;>omega)|(dsimp only;omega)|decide) (by first|assumption|decide|exact fun x hx=>Nat.le_trans (hrow x hx) (by decide)|exact fun x hx=>Nat.le_trans (of_decide_eq_true (List.all_eq_true.1 hbt x hx)) (by decide)|(intro x hx;simp only [List.nil_append,List.mem_append] at hx;rcases hx with hx|hx<;>first|exact Nat.le_trans (hrow x hx) (by decide)|exact Nat.le_trans (hpt x hx) (by decide))|(intro x hx;rw [List.mem_singleton.1 hx];omega)|exact fun x hx=>Nat.le_trans (hrow x (List.mem_of_mem_take hx)) (by decide)|exact fun x hx=>Nat.le_trans (hrow x (List.mem_of_mem_drop hx)) (by decide)|exact fun x hx=>Nat.le_trans (hrow x (List.mem_of_mem_drop (List.mem_of_mem_take hx))) (by decide)|omega) y2 hy2) rfl rfl rfl rfl rfl A1.refl (List.Perm.refl _) (fun ⟨r3,hk4⟩=>(bx b1 (A2 a) 26::(vo cU8 5 r3 y2.1)++([]))) (fun ⟨r3,hk4⟩=>W9 [vo cU8 5 r3 y2.1,[bx b1 (A2 a) 26]] [1,0] 2 rfl (by decide) (by first|rfl|simp only [List.flatten_cons,List.flatten_nil,List.append_nil,List.cons_append,List.nil_append,List.append_assoc]) [[bx b1 (A2 a) 26],vo cU8 5 r3 y2.1] rfl (by first|rfl|simp only [List.flatten_cons,List.flatten_nil,List.append_nil,List.cons_append,List.nil_append,List.append_assoc]))) fun ⟨r3,hk4⟩=>?_
 have:=VOk.le hk4
 have:=VOk.cap hk4
 try have:=B4r ([a]:List Act) (fun x hx=>Nat.le_trans (hrow x (by first|exact hx|exact List.mem_of_mem_take hx|exact List.mem_of_mem_drop hx)) (by decide));try rw [hy2] at this
 refine ip' 4 0 [(2,.slice (va r3.q) y2.1.length r3.k),(3,iv y2.2)] ?_
 subst hR
 refine ie (A5 ?_)
 exact zer hr hD (A5m rfl (B8 rfl) (B8 rfl)) ⟨r3,hk4⟩ (mc [[bx b1 (A2 a) 26],vo cU8 5 r3 y2.1] [false,true] rfl (by first|rfl|(simp only [List.length_set]<;>rfl))) A1.nil
def B0 (kind:Int) (n:Int) (m:Int):Act :=
 {Act.zero with kind:=kind,n:=n,m:=m}
theorem Q3 (kind:Int) (n:Int) (m:Int) (R:Act) (hR:B0 kind n m=R):I4 Tryz.prog 23 [iv kind,iv n,iv m] [] (ag (A2 R)):=by
 refine zco Tryz.func23 [(0,iv kind),(1,iv n),(2,iv m)] fun X hX hr hD=>?_
 replace hR:=(B0.eq_1 ..).symm.trans hR
 refine sr 1 rfl (O2 1 0 [] (fun b1=>[(6,pt b1 0)]) (fun b1=>[bx b1 (A2 Act.zero) 26]) (fun b1=>?_))
 refine ie (sr 5 rfl (zrg 5 0 [0] [] [bx b1 (A2 ({Act.zero with kind:=kind,n:=n,m:=m})) 26] ?_))
 subst hR
 refine ie (A5 ?_)
 exact zer hr hD (M4 rfl (D4 (us:=A2 ({Act.zero with kind:=kind,n:=n,m:=m})) A1u rfl 0 rfl rfl rfl)) () (mk [false] rfl) A1.nil
def J9 (s:List UInt8) (l:List Act):Bool :=
 (C0 (A0h l) fun (y2:List UInt8×Int)=>((decide (y2.1=s))&&(decide (y2.2=0))))
theorem B0d (s:List UInt8) (l:List Act) (lq:Option Addr) (lk:Nat) (hll:l.length≤9223372036854775807) (hcl:l.length≤lk) (hkind:∀ a ∈ l,a.text.length≤100000000) (R:Bool) (hR:J9 s l=R):I4 Tryz.prog 22 [sv s,.slice lq l.length lk] [sl A2 lq l,B3z,B3x,P6,P2,L5,R7] (bv R):=by
 refine zco Tryz.func22 [(0,sv s),(1,.slice lq l.length lk)] fun X hX hr hD=>?_
 replace hR:=(J9.eq_1 ..).symm.trans hR
 refine sr 1 rfl (ip' 1 0 [] ?_)
 refine ie (sr 7 rfl (ip' 1 6 [(8,.slice lq l.length lk)] ?_))
 have hQ:=C3 hR;clear hR;obtain ⟨y2,hy2,hR⟩:=hQ
 refine it rfl (C4 (L2:=[]) (B8e l lq lk (by first|omega|(simp<;>omega)|(dsimp only;omega)|decide) (by first|omega|(simp<;>omega)|(dsimp only;omega)|decide) (by first|assumption|decide|exact fun x hx=>Nat.le_trans (hrow x hx) (by decide)|exact fun x hx=>Nat.le_trans (of_decide_eq_true (List.all_eq_true.1 hbt x hx)) (by decide)|(intro x hx;simp only [List.nil_append,List.mem_append] at hx;rcases hx with hx|hx<;>first|exact Nat.le_trans (hrow x hx) (by decide)|exact Nat.le_trans (hpt x hx) (by decide))|(intro x hx;rw [List.mem_singleton.1 hx];omega)|exact fun x hx=>Nat.le_trans (hrow x (List.mem_of_mem_take hx)) (by decide)|exact fun x hx=>Nat.le_trans (hrow x (List.mem_of_mem_drop hx)) (by decide)|exact fun x hx=>Nat.le_trans (hrow x (List.mem_of_mem_drop (List.mem_of_mem_take hx))) (by decide)|omega) y2 hy2) rfl rfl rfl rfl rfl A1.refl (List.Perm.refl _) (fun ⟨r1,hk2⟩=>((vo cU8 5 r1 y2.1)++([]))) (fun _=>by first|rfl|simp only [List.append_nil,List.cons_append,List.nil_append,List.append_assoc])) fun ⟨r1,hk2⟩=>?_
 have:=VOk.le hk2
 have:=VOk.cap hk2
 try have:=B4r l (fun x hx=>Nat.le_trans (hrow x (by first|exact hx|exact List.mem_of_mem_take hx|exact List.mem_of_mem_drop hx)) (by decide));try rw [hy2] at this
 refine A7f [] [] (T:=5) (c:=cU8) (r:=r1) (xs:=y2.1) hk2 (by first|rfl|simp only [List.cons_append,List.append_assoc,List.nil_append,List.append_nil]) ?_
 refine ip' 5 0 [(5,.slice (va r1.q) y2.1.length r1.k),(6,iv y2.2)] ?_
 refine ie (sr 9 rfl (ip' 1 8 [(12,.slice (va r1.q) y2.1.length r1.k)] ?_))
 refine ix rfl (A4y Tryz.underlying9 Tryz.underlying30 rfl rfl (B1 0 rfl) rfl (by kernel_rfl)) ?_
 refine ip' 1 6 [(14,sv s)] ?_
 refine ix rfl (B7t rfl rfl rfl) ?_
 refine ip' 1 4 [(16,bv (decide (y2.1=s)))] ?_
 refine zid 3 1 16 19 (decide (y2.2=0)) (fun g3 g3p=>?_) ?_
 ·refine ip' 3 0 [(19,bv (decide (y2.2=0)))] ?_
  exact zai 2 16 19 g3
 refine ip' 1 0 [(4,bv ((decide (y2.1=s))&&(decide (y2.2=0))))] ?_
 subst hR
 refine ie (A5 ?_)
 exact C9 hr hD
def A3r:Bool :=
 (((((J9 C0l ([(B0 19 1 1),(B0 19 5 1),(B0 19 1 5),(B0 19 2 3)]:List Act))&&(J9 B8c ([(B0 20 2 1),(B0 20 2 7),(B0 26 0 0),(B0 26 2 0)]:List Act)))&&(J9 ([27,91,49,59,51,49,109,97,27,91,48,109]:List UInt8) ([(B0 39 1 1),{Act.zero with kind:=39,n:=4,color:=(⟨1,1⟩:Col)},(B0 1 97 0),(B0 39 0 0)]:List Act)))&&(J9 C4m ([(B0 37 25 1),(B0 43 0 0),(B0 38 0 4),(B0 40 0 0)]:List Act)))&&(J9 ([27,93,50,59,116,27,92,27,43,48,14]:List UInt8) ([{Act.zero with kind:=44,text:=([116]:List UInt8)},(B0 17 3 1),(B0 7 1 0)]:List Act)))
theorem B6f (R:Bool) (hR:A3r=R):I4 Tryz.prog 17 [] [B3z,B3x,P6,P2,L5,R7] (bv R):=by
 refine zco Tryz.func17 [] fun X hX hr hD=>?_
 replace hR:=(A3r.eq_1 ..).symm.trans hR
 refine sr 1 rfl (ip' 1 0 [] ?_)
 refine ie (sr 15 rfl (zca (Q3 19 1 1 _ rfl) A1.nil ?_))
 refine zca (Q3 19 5 1 _ rfl) A1.nil ?_
 refine zca (Q3 19 1 5 _ rfl) A1.nil ?_
 refine zca (Q3 19 2 3 _ rfl) A1.nil ?_
 refine it rfl (B5 (c:=A2) (xs:=([(B0 19 1 1),(B0 19 5 1),(B0 19 1 5),(B0 19 2 3)]:List Act)) A5u rfl rfl rfl (by kernel_rfl)) fun b1=>?_
 have:([(B0 19 1 1),(B0 19 5 1),(B0 19 1 5),(B0 19 2 3)]:List Act).length=4:=rfl
 refine zca (B0d C0l ([(B0 19 1 1),(B0 19 5 1),(B0 19 1 5),(B0 19 2 3)]:List Act) (some ⟨b1,0,none⟩) 4 (by first|omega|(simp<;>omega)|(dsimp only;omega)|decide) (by first|omega|(simp<;>omega)|(dsimp only;omega)|decide) (by first|assumption|decide|omega) _ rfl) A1.refl ?_
 refine ip' 1 8 [(11,bv (J9 C0l ([(B0 19 1 1),(B0 19 5 1),(B0 19 1 5),(B0 19 2 3)]:List Act)))] ?_
 refine zia 7 1 11 18 (J9 B8c ([(B0 20 2 1),(B0 20 2 7),(B0 26 0 0),(B0 26 2 0)]:List Act)) (fun g2=>?_) ?_
 ·refine zca (Q3 20 2 1 _ rfl) A1.nil ?_
  refine zca (Q3 20 2 7 _ rfl) A1.nil ?_
  refine zca (Q3 26 0 0 _ rfl) A1.nil ?_
  refine zca (Q3 26 2 0 _ rfl) A1.nil ?_
  refine it rfl (B5 (c:=A2) (xs:=([(B0 20 2 1),(B0 20 2 7),(B0 26 0 0),(B0 26 2 0)]:List Act)) A5u rfl rfl rfl (by kernel_rfl)) fun b3=>?_
  have:([(B0 20 2 1),(B0 20 2 7),(B0 26 0 0),(B0 26 2 0)]:List Act).length=4:=rfl
  refine zca (B0d B8c ([(B0 20 2 1),(B0 20 2 7),(B0 26 0 0),(B0 26 2 0)]:List Act) (some ⟨b3,0,none⟩) 4 (by first|omega|(simp<;>omega)|(dsimp only;omega)|decide) (by first|omega|(simp<;>omega)|(dsimp only;omega)|decide) (by first|assumption|decide|omega) _ rfl) (A1.pick [0,2,3,4,5,6,7] rfl) ?_
  refine ip' 1 0 [(18,bv (J9 B8c ([(B0 20 2 1),(B0 20 2 7),(B0 26 0 0),(B0 26 2 0)]:List Act)))] ?_
  exact A7 (M2 8 11 18 g2 (A1.pick [1,2,3,4,5,6,7] rfl) (mk [] rfl) rfl rfl rfl rfl rfl)
 refine ip' 1 0 [(1,bv ((J9 C0l ([(B0 19 1 1),(B0 19 5 1),(B0 19 1 5),(B0 19 2 3)]:List Act))&&(J9 B8c ([(B0 20 2 1),(B0 20 2 7),(B0 26 0 0),(B0 26 2 0)]:List Act))))] ?_
 refine ie (sr 4 rfl (O2 4 0 [0] (fun b4=>[(2,pt b4 0)]) (fun b4=>[bx b4 (A2 ({Act.zero with kind:=39,n:=4,color:=(⟨1,1⟩:Col)})) 26]) (fun b4=>?_)))
 refine ie (sh 7 [(7,[bx b4 (A2 ({Act.zero with kind:=39,n:=4,color:=(⟨1,1⟩:Col)})) 26])] [sl A2 (some ⟨b1,0,none⟩) ([(B0 19 1 1),(B0 19 5 1),(B0 19 1 5),(B0 19 2 3)]:List Act),B3z,B3x,P6,P2,L5,R7] [bx b4 (A2 ({Act.zero with kind:=39,n:=4,color:=(⟨1,1⟩:Col)})) 26] (zml 7 0) (by kernel_rfl) rfl (by kernel_rfl) (by kernel_rfl) (by kernel_rfl) (mk [true] rfl) A1.refl ?_)
 refine zhl 1 [bx b4 (A2 ({Act.zero with kind:=39,n:=4,color:=(⟨1,1⟩:Col)})) 26] (zml 7 2) rfl (J2 (us:=A2 ({Act.zero with kind:=39,n:=4,color:=(⟨1,1⟩:Col)})) A1u rfl rfl 0 rfl rfl rfl) ?_
 refine zho 0 [bx b4 (A2 ({Act.zero with kind:=39,n:=4,color:=(⟨1,1⟩:Col)})) 26] (zml 7 3) rfl (Det.tri (A0w (Q3 39 1 1 _ rfl) rfl rfl rfl rfl rfl A1.nil)) (fun _=>(mk [true] rfl)) (fun _=>A1.refl) fun _=>?_
 refine zho 2 [bx b4 (A2 ({Act.zero with kind:=39,n:=4,color:=(⟨1,1⟩:Col)})) 26] (zml 7 7) rfl (Det.tri (A0w (Q3 1 97 0 _ rfl) rfl rfl rfl rfl rfl A1.nil)) (fun _=>(mk [true] rfl)) (fun _=>A1.refl) fun _=>?_
 refine zho 3 [bx b4 (A2 ({Act.zero with kind:=39,n:=4,color:=(⟨1,1⟩:Col)})) 26] (zml 7 15) rfl (Det.tri (A0w (Q3 39 0 0 _ rfl) rfl rfl rfl rfl rfl A1.nil)) (fun _=>(mk [true] rfl)) (fun _=>A1.refl) fun _=>?_
 refine zho 4 [bx b4 (A2 ({Act.zero with kind:=39,n:=4,color:=(⟨1,1⟩:Col)})) 26] (zml 7 31) rfl (B5 (c:=A2) (xs:=([(B0 39 1 1),{Act.zero with kind:=39,n:=4,color:=(⟨1,1⟩:Col)},(B0 1 97 0),(B0 39 0 0)]:List Act)) A5u rfl rfl rfl (by kernel_rfl)) (fun b5=>(mk [true] rfl)) (fun b5=>(A1.pick [1,2,3,4,5,6,7] rfl)) fun b5=>?_
 have:([(B0 39 1 1),{Act.zero with kind:=39,n:=4,color:=(⟨1,1⟩:Col)},(B0 1 97 0),(B0 39 0 0)]:List Act).length=4:=rfl
 refine zho 5 [bx b4 (A2 ({Act.zero with kind:=39,n:=4,color:=(⟨1,1⟩:Col)})) 26] (zml 7 63) rfl (Det.tri (A0w (B0d ([27,91,49,59,51,49,109,97,27,91,48,109]:List UInt8) ([(B0 39 1 1),{Act.zero with kind:=39,n:=4,color:=(⟨1,1⟩:Col)},(B0 1 97 0),(B0 39 0 0)]:List Act) (some ⟨b5,0,none⟩) 4 (by first|omega|(simp<;>omega)|(dsimp only;omega)|decide) (by first|omega|(simp<;>omega)|(dsimp only;omega)|decide) (by first|assumption|decide|omega) _ rfl) rfl rfl rfl rfl rfl (A1.pick [0,2,3,4,5,6,7] rfl))) (fun _=>(mk [true] rfl)) (fun _=>(A1.pick [1,2,3,4,5,6,7] rfl)) fun _=>?_
 refine zhp [6] 0 (zml 7 127) [(3,bv (J9 ([27,91,49,59,51,49,109,97,27,91,48,109]:List UInt8) ([(B0 39 1 1),{Act.zero with kind:=39,n:=4,color:=(⟨1,1⟩:Col)},(B0 1 97 0),(B0 39 0 0)]:List Act)))] ?_
 refine A6h (by kernel_rfl) ?_
 refine sr 7 rfl (zca (Q3 37 25 1 _ rfl) A1.nil ?_)
 refine zca (Q3 43 0 0 _ rfl) A1.nil ?_
 refine zca (Q3 38 0 4 _ rfl) A1.nil ?_
 refine zca (Q3 40 0 0 _ rfl) A1.nil ?_
 refine it rfl (B5 (c:=A2) (xs:=([(B0 37 25 1),(B0 43 0 0),(B0 38 0 4),(B0 40 0 0)]:List Act)) A5u rfl rfl rfl (by kernel_rfl)) fun b6=>?_
 have:([(B0 37 25 1),(B0 43 0 0),(B0 38 0 4),(B0 40 0 0)]:List Act).length=4:=rfl
 refine zca (B0d C4m ([(B0 37 25 1),(B0 43 0 0),(B0 38 0 4),(B0 40 0 0)]:List Act) (some ⟨b6,0,none⟩) 4 (by first|omega|(simp<;>omega)|(dsimp only;omega)|decide) (by first|omega|(simp<;>omega)|(dsimp only;omega)|decide) (by first|assumption|decide|omega) _ rfl) (A1.pick [0,3,4,5,6,7,8] rfl) ?_
 refine ip' 1 0 [(4,bv (J9 C4m ([(B0 37 25 1),(B0 43 0 0),(B0 38 0 4),(B0 40 0 0)]:List Act)))] ?_
 refine ie (sr 15 rfl (ip' 2 13 [(34,bv ((J9 C0l ([(B0 19 1 1),(B0 19 5 1),(B0 19 1 5),(B0 19 2 3)]:List Act))&&(J9 B8c ([(B0 20 2 1),(B0 20 2 7),(B0 26 0 0),(B0 26 2 0)]:List Act))))] ?_))
 refine zia 2 11 34 36 (J9 ([27,91,49,59,51,49,109,97,27,91,48,109]:List UInt8) ([(B0 39 1 1),{Act.zero with kind:=39,n:=4,color:=(⟨1,1⟩:Col)},(B0 1 97 0),(B0 39 0 0)]:List Act)) (fun g7=>?_) ?_
 ·have g7p:=g7;try simp at g7p
  refine ip' 2 0 [(36,bv (J9 ([27,91,49,59,51,49,109,97,27,91,48,109]:List UInt8) ([(B0 39 1 1),{Act.zero with kind:=39,n:=4,color:=(⟨1,1⟩:Col)},(B0 1 97 0),(B0 39 0 0)]:List Act)))] ?_
  exact zai 2 34 36 g7
 refine ip' 1 10 [(37,bv (((J9 C0l ([(B0 19 1 1),(B0 19 5 1),(B0 19 1 5),(B0 19 2 3)]:List Act))&&(J9 B8c ([(B0 20 2 1),(B0 20 2 7),(B0 26 0 0),(B0 26 2 0)]:List Act)))&&(J9 ([27,91,49,59,51,49,109,97,27,91,48,109]:List UInt8) ([(B0 39 1 1),{Act.zero with kind:=39,n:=4,color:=(⟨1,1⟩:Col)},(B0 1 97 0),(B0 39 0 0)]:List Act))))] ?_
 refine zia 2 8 37 39 (J9 C4m ([(B0 37 25 1),(B0 43 0 0),(B0 38 0 4),(B0 40 0 0)]:List Act)) (fun g8=>?_) ?_
 ·have g8p:=g8;try simp at g8p
  refine ip' 2 0 [(39,bv (J9 C4m ([(B0 37 25 1),(B0 43 0 0),(B0 38 0 4),(B0 40 0 0)]:List Act)))] ?_
  exact zai 2 37 39 g8
 refine ip' 1 7 [(40,bv ((((J9 C0l ([(B0 19 1 1),(B0 19 5 1),(B0 19 1 5),(B0 19 2 3)]:List Act))&&(J9 B8c ([(B0 20 2 1),(B0 20 2 7),(B0 26 0 0),(B0 26 2 0)]:List Act)))&&(J9 ([27,91,49,59,51,49,109,97,27,91,48,109]:List UInt8) ([(B0 39 1 1),{Act.zero with kind:=39,n:=4,color:=(⟨1,1⟩:Col)},(B0 1 97 0),(B0 39 0 0)]:List Act)))&&(J9 C4m ([(B0 37 25 1),(B0 43 0 0),(B0 38 0 4),(B0 40 0 0)]:List Act))))] ?_
 refine zia 6 1 40 46 (J9 ([27,93,50,59,116,27,92,27,43,48,14]:List UInt8) ([{Act.zero with kind:=44,text:=([116]:List UInt8)},(B0 17 3 1),(B0 7 1 0)]:List Act)) (fun g9=>?_) ?_
 ·have g9p:=g9;try simp at g9p
  refine zrl 1 5 [] [(41,ag (A2 ({Act.zero with kind:=44,text:=([116]:List UInt8)})))] ?_
  refine zca (Q3 17 3 1 _ rfl) A1.nil ?_
  refine zca (Q3 7 1 0 _ rfl) A1.nil ?_
  refine it rfl (B5 (c:=A2) (xs:=([{Act.zero with kind:=44,text:=([116]:List UInt8)},(B0 17 3 1),(B0 7 1 0)]:List Act)) A5u rfl rfl rfl (by kernel_rfl)) fun b10=>?_
  have:([{Act.zero with kind:=44,text:=([116]:List UInt8)},(B0 17 3 1),(B0 7 1 0)]:List Act).length=3:=rfl
  refine zca (B0d ([27,93,50,59,116,27,92,27,43,48,14]:List UInt8) ([{Act.zero with kind:=44,text:=([116]:List UInt8)},(B0 17 3 1),(B0 7 1 0)]:List Act) (some ⟨b10,0,none⟩) 3 (by first|omega|(simp<;>omega)|(dsimp only;omega)|decide) (by first|omega|(simp<;>omega)|(dsimp only;omega)|decide) (by first|assumption|decide|omega) _ rfl) (A1.pick [0,4,5,6,7,8,9] rfl) ?_
  refine ip' 1 0 [(46,bv (J9 ([27,93,50,59,116,27,92,27,43,48,14]:List UInt8) ([{Act.zero with kind:=44,text:=([116]:List UInt8)},(B0 17 3 1),(B0 7 1 0)]:List Act)))] ?_
  exact A7 (M2 7 40 46 g9 (A1.pick [1,2,3,4,5,6,7,8,9] rfl) (mk [true] rfl) rfl rfl rfl rfl rfl)
 refine ip' 1 0 [(0,bv (((((J9 C0l ([(B0 19 1 1),(B0 19 5 1),(B0 19 1 5),(B0 19 2 3)]:List Act))&&(J9 B8c ([(B0 20 2 1),(B0 20 2 7),(B0 26 0 0),(B0 26 2 0)]:List Act)))&&(J9 ([27,91,49,59,51,49,109,97,27,91,48,109]:List UInt8) ([(B0 39 1 1),{Act.zero with kind:=39,n:=4,color:=(⟨1,1⟩:Col)},(B0 1 97 0),(B0 39 0 0)]:List Act)))&&(J9 C4m ([(B0 37 25 1),(B0 43 0 0),(B0 38 0 4),(B0 40 0 0)]:List Act)))&&(J9 ([27,93,50,59,116,27,92,27,43,48,14]:List UInt8) ([{Act.zero with kind:=44,text:=([116]:List UInt8)},(B0 17 3 1),(B0 7 1 0)]:List Act))))] ?_
 subst hR
 refine ie (A5 ?_)
 exact C9 hr hD
theorem D4f {x0 x1 x2 x3 x4 x5:Act} (h0:x0.text.length≤100000000) (h1:x1.text.length≤100000000) (h2:x2.text.length≤100000000) (h3:x3.text.length≤100000000) (h4:x4.text.length≤100000000) (h5:x5.text.length≤100000000) :
  ∀ k:Nat,(([x0,x1,x2,x3,x4,x5]:List Act).getD k Act.zero).text.length≤100000000
 | 0=>h0 | 1=>h1 | 2=>h2 | 3=>h3 | 4=>h4 | 5=>h5 | _+6=>Nat.zero_le _
theorem E1t (n:Int):0≤IntKind.u64.wrap n:=by
 show 0≤n % 18446744073709551616
 exact Int.emod_nonneg _ (by decide)
def Y5 (a:Act) (d:Drf) (n:Int):Nat→Nat→Bool
 | 0,_=>false
 | fu1+1,t51=>(bif (decide ((t51:Int)<6)) then (C0 (B2m (([(⟨a.kind,a.n,a.m,a.color,(a.text.take ((if (600:Int)<(a.text.length:Int) then (600:Int) else (a.text.length:Int)).toNat))⟩:Act),(⟨(A0 d).kind,(A0 d).n,(A0 d).m,((A0 d).color),(A0 d).text⟩:Act),(⟨(A0 d).kind,n,(A0 d).m,((A0 d).color),(A0 d).text⟩:Act),(⟨(A0 d).kind,(A0 d).n,n,((A0 d).color),(A0 d).text⟩:Act),(⟨(A0 d).kind,a.n,a.m,(⟨0,0⟩:Col),[]⟩:Act),(⟨(A0 d).kind,((IntKind.u64.wrap n) % 5),1,(⟨0,0⟩:Col),[]⟩:Act)]:List Act).getD t51 Act.zero)) fun (y0:List UInt8×Int)=>(C0 (A6p (([(⟨a.kind,a.n,a.m,a.color,(a.text.take ((if (600:Int)<(a.text.length:Int) then (600:Int) else (a.text.length:Int)).toNat))⟩:Act),(⟨(A0 d).kind,(A0 d).n,(A0 d).m,((A0 d).color),(A0 d).text⟩:Act),(⟨(A0 d).kind,n,(A0 d).m,((A0 d).color),(A0 d).text⟩:Act),(⟨(A0 d).kind,(A0 d).n,n,((A0 d).color),(A0 d).text⟩:Act),(⟨(A0 d).kind,a.n,a.m,(⟨0,0⟩:Col),[]⟩:Act),(⟨(A0 d).kind,((IntKind.u64.wrap n) % 5),1,(⟨0,0⟩:Col),[]⟩:Act)]:List Act).getD t51 Act.zero)) fun (y1:List UInt8×Int)=>(bif ((!(decide (y0.1=y1.1)))||(!decide (y0.2=y1.2))) then false else Y5 a d n fu1 (t51+1)))) else A3r)
def A5r (a:Act) (d:Drf) (n:Int):Nat→Nat→Bool
 | 0,_=>false
 | fu3+1,t511=>(bif (decide ((t511:Int)<6)) then (C0 (B2m (([(⟨a.kind,a.n,a.m,a.color,(a.text.take ((if (600:Int)<(a.text.length:Int) then (600:Int) else (a.text.length:Int)).toNat))⟩:Act),(⟨(A0 d).kind,(A0 d).n,(A0 d).m,((A0 d).color),(A0 d).text⟩:Act),(⟨(A0 d).kind,n,(A0 d).m,((A0 d).color),(A0 d).text⟩:Act),(⟨(A0 d).kind,(A0 d).n,n,((A0 d).color),(A0 d).text⟩:Act),(⟨(A0 d).kind,a.n,a.m,(⟨0,0⟩:Col),[]⟩:Act),(⟨(A0 d).kind,((IntKind.u64.wrap n) % 5),1,(⟨0,0⟩:Col),[]⟩:Act)]:List Act).getD t511 Act.zero)) fun (y3:List UInt8×Int)=>(C0 (A6p (([(⟨a.kind,a.n,a.m,a.color,(a.text.take ((if (600:Int)<(a.text.length:Int) then (600:Int) else (a.text.length:Int)).toNat))⟩:Act),(⟨(A0 d).kind,(A0 d).n,(A0 d).m,((A0 d).color),(A0 d).text⟩:Act),(⟨(A0 d).kind,n,(A0 d).m,((A0 d).color),(A0 d).text⟩:Act),(⟨(A0 d).kind,(A0 d).n,n,((A0 d).color),(A0 d).text⟩:Act),(⟨(A0 d).kind,a.n,a.m,(⟨0,0⟩:Col),[]⟩:Act),(⟨(A0 d).kind,((IntKind.u64.wrap n) % 5),1,(⟨0,0⟩:Col),[]⟩:Act)]:List Act).getD t511 Act.zero)) fun (y4:List UInt8×Int)=>(bif ((!(decide (y3.1=y4.1)))||(!decide (y3.2=y4.2))) then false else A5r a d n fu3 (t511+1)))) else A3r)
def A9i (a:Act) (d:Drf) (n:Int):Bool :=
 Y5 a d n ((6 - 0)+1) 0
theorem B9p (a:Act) (d:Drf) (n:Int) (hd:B6k d) (R:Bool) (hR:A9i a d n=R):I4 Tryz.prog 5 [ag (A2 a),ag (I7 d),iv n] [B3z,B3x,P6,P2,L5,R7] (bv R):=by
 refine zco Tryz.func5 [(0,ag (A2 a)),(1,ag (I7 d)),(2,iv n)] fun X hX hr hD=>?_
 replace hR:=(A9i.eq_1 ..).symm.trans hR
 have hun:=E1t n
 refine sr 3 rfl (C2e 3 0 [] (fun b1 b2=>[(3,pt b1 0),(4,pt b2 0)]) (fun b1 b2=>[bx b2 (I7 d) 41,bx b1 (A2 a) 26]) (fun b1 b2=>?_))
 refine ie (sr 9 rfl (zrl 6 3 [1,1] [(17,sv a.text),(21,iv (if (600:Int)<(a.text.length:Int) then (600:Int) else (a.text.length:Int)))] ?_))
 have:=C6w (a.text.length:Int) (600:Int)
 refine ix rfl (A5h (T:=9) Tryz.underlying9 rfl rfl rfl ((if (600:Int)<(a.text.length:Int) then (600:Int) else (a.text.length:Int)).toNat) (by omega) (by omega)) ?_
 refine zrg 2 0 [1] [] [bx b2 (I7 d) 41,bx b1 (A2 ({a with text:=(a.text.take ((if (600:Int)<(a.text.length:Int) then (600:Int) else (a.text.length:Int)).toNat))})) 26] ?_
 refine ie (sr 4 rfl (zrl 1 3 [0] [(24,ag (I7 d))] ?_))
 refine zca (B4h d (by first|assumption|(exact hdl _ (List.getElem_mem (by omega)))|(rw [gdE (by omega)];exact hdl _ (List.getElem_mem (by omega)))) _ rfl) A1.nil ?_
 have:=B2t d
 refine O2 2 0 [0] (fun b3=>[(7,pt b3 0)]) (fun b3=>[bx b3 (A2 (A0 d)) 26,bx b2 (I7 d) 41,bx b1 (A2 ({a with text:=(a.text.take ((if (600:Int)<(a.text.length:Int) then (600:Int) else (a.text.length:Int)).toNat))})) 26]) (fun b3=>?_)
 refine ie (sh 6 [(6,[bx b3 (A2 (A0 d)) 26]),(6,[bx b2 (I7 d) 41]),(6,[bx b1 (A2 ({a with text:=(a.text.take ((if (600:Int)<(a.text.length:Int) then (600:Int) else (a.text.length:Int)).toNat))})) 26])] [B3z,B3x,P6,P2,L5,R7] [bx b3 (A2 (A0 d)) 26,bx b2 (I7 d) 41,bx b1 (A2 ({a with text:=(a.text.take ((if (600:Int)<(a.text.length:Int) then (600:Int) else (a.text.length:Int)).toNat))})) 26] (zml 6 0) (by kernel_rfl) rfl (by kernel_rfl) (by kernel_rfl) (by kernel_rfl) (mk [true,true,true] rfl) A1.refl ?_)
 refine zhl 0 [bx b3 (A2 (A0 d)) 26,bx b2 (I7 d) 41,bx b1 (A2 ({a with text:=(a.text.take ((if (600:Int)<(a.text.length:Int) then (600:Int) else (a.text.length:Int)).toNat))})) 26] (zml 6 1) rfl (J2 (us:=A2 (A0 d)) A1u rfl rfl 0 rfl rfl rfl) ?_
 refine zhl 1 [bx b3 (A2 (A0 d)) 26,bx b2 (I7 d) 41,bx b1 (A2 ({a with text:=(a.text.take ((if (600:Int)<(a.text.length:Int) then (600:Int) else (a.text.length:Int)).toNat))})) 26] (zml 6 3) rfl (J2 (us:=A2 (A0 d)) A1u rfl rfl 0 rfl rfl rfl) ?_
 refine A8n 2 3 (by kernel_rfl) ?_ ?_
 ·refine B3y 2 [bx b3 (A2 (A0 d)) 26,bx b2 (I7 d) 41,bx b1 (A2 ({a with text:=(a.text.take ((if (600:Int)<(a.text.length:Int) then (600:Int) else (a.text.length:Int)).toNat))})) 26] (zml 6 7) rfl rfl rfl (by kernel_rfl) (by kernel_rfl) (by kernel_rfl) (V3 (cs:=A2 Act.zero) C7j rfl) (fun b4=>(mk [false,true,true,true] rfl)) (fun b4=>A1.refl) fun b4=>?_
  refine zho 3 [bx b3 (A2 (A0 d)) 26,bx b2 (I7 d) 41,bx b1 (A2 ({a with text:=(a.text.take ((if (600:Int)<(a.text.length:Int) then (600:Int) else (a.text.length:Int)).toNat))})) 26] (zml 6 15) rfl (V3 (cs:=A2 Act.zero) C7j rfl) (fun b5=>(mk [false,false,true,true,true] rfl)) (fun b5=>A1.refl) fun b5=>?_
  refine zho 4 [bx b3 (A2 (A0 d)) 26,bx b2 (I7 d) 41,bx b1 (A2 ({a with text:=(a.text.take ((if (600:Int)<(a.text.length:Int) then (600:Int) else (a.text.length:Int)).toNat))})) 26] (zml 6 31) rfl (M6 (us:=A2 (A0 d)) (cs':=A2 (A0 d)) A1u rfl rfl rfl 1 rfl rfl rfl rfl rfl rfl) (fun _=>(mk [false,false,true,true,true] rfl)) (fun _=>A1.refl) fun _=>?_
  refine zho 5 [bx b3 (A2 (A0 d)) 26,bx b2 (I7 d) 41,bx b1 (A2 ({a with text:=(a.text.take ((if (600:Int)<(a.text.length:Int) then (600:Int) else (a.text.length:Int)).toNat))})) 26] (zml 6 63) rfl (M6 (us:=A2 (A0 d)) (cs':=A2 (A0 d)) A1u rfl rfl rfl 0 rfl rfl rfl rfl rfl rfl) (fun _=>(mk [false,false,true,true,true] rfl)) (fun _=>A1.refl) fun _=>?_
  refine A6h (by kernel_rfl) ?_
  refine sr 6 rfl (zrg 6 0 [1,0] [] [bx b5 (A2 ({(A0 d) with m:=n})) 26,bx b4 (A2 ({(A0 d) with n:=n})) 26,bx b3 (A2 (A0 d)) 26,bx b2 (I7 d) 41,bx b1 (A2 ({a with text:=(a.text.take ((if (600:Int)<(a.text.length:Int) then (600:Int) else (a.text.length:Int)).toNat))})) 26] ?_)
  refine ie (A9 (sr 20 rfl (zrl 15 5 [4,2,1,0,2,4,4,2] [(32,ag (A2 ({a with text:=(a.text.take ((if (600:Int)<(a.text.length:Int) then (600:Int) else (a.text.length:Int)).toNat))}))),(33,ag (A2 (A0 d))),(34,ag (A2 ({(A0 d) with n:=n}))),(35,ag (A2 ({(A0 d) with m:=n}))),(42,ag (A2 ({Act.zero with kind:=(A0 d).kind,n:=a.n,m:=a.m}))),(44,iv ((A0 d).kind)),(46,.int .u64 (IntKind.u64.wrap n))] ?_)))
  refine ix rfl (U9 (c:=((IntKind.u64.wrap n) % 5)) rfl rfl rfl (by decide) (by first|omega|exact ⟨hun,rfl⟩)) ?_
  refine ix rfl (N7 (c:=((IntKind.u64.wrap n) % 5)) Tryz.underlying3 (by kernel_rfl) rfl rfl (O7 (by first|(simp [IntKind.min,IntKind.signed,IntKind.bits];omega)|(simp [IntKind.max,IntKind.signed,IntKind.bits];omega)) (by first|(simp [IntKind.min,IntKind.signed,IntKind.bits];omega)|(simp [IntKind.max,IntKind.signed,IntKind.bits];omega)))) ?_
  refine zrl 3 0 [] [(50,ag [iv a.kind,iv a.n,iv a.m,iv a.color.kind,iv a.color.n,sv (a.text.take ((if (600:Int)<(a.text.length:Int) then (600:Int) else (a.text.length:Int)).toNat)),iv ((A0 d).kind),iv ((A0 d).n),iv ((A0 d).m),iv (((A0 d).color).kind),iv (((A0 d).color).n),sv ((A0 d).text),iv ((A0 d).kind),iv n,iv ((A0 d).m),iv (((A0 d).color).kind),iv (((A0 d).color).n),sv ((A0 d).text),iv ((A0 d).kind),iv ((A0 d).n),iv n,iv (((A0 d).color).kind),iv (((A0 d).color).n),sv ((A0 d).text),iv ((A0 d).kind),iv a.n,iv a.m,iv 0,iv 0,sv [],iv ((A0 d).kind),iv ((IntKind.u64.wrap n) % 5),iv 1,iv 0,iv 0,sv []]),(51,iv 0)] ?_
  refine ie (B3 (C4d (fun (fu:Nat) (t51:Nat)=>((6 - t51)<fu∧Y5 a d n fu t51=R,[(50,ag [iv a.kind,iv a.n,iv a.m,iv a.color.kind,iv a.color.n,sv (a.text.take ((if (600:Int)<(a.text.length:Int) then (600:Int) else (a.text.length:Int)).toNat)),iv ((A0 d).kind),iv ((A0 d).n),iv ((A0 d).m),iv (((A0 d).color).kind),iv (((A0 d).color).n),sv ((A0 d).text),iv ((A0 d).kind),iv n,iv ((A0 d).m),iv (((A0 d).color).kind),iv (((A0 d).color).n),sv ((A0 d).text),iv ((A0 d).kind),iv ((A0 d).n),iv n,iv (((A0 d).color).kind),iv (((A0 d).color).n),sv ((A0 d).text),iv ((A0 d).kind),iv a.n,iv a.m,iv 0,iv 0,sv [],iv ((A0 d).kind),iv ((IntKind.u64.wrap n) % 5),iv 1,iv 0,iv 0,sv []]),(51,iv (t51:Int))],[bx b5 (A2 ({(A0 d) with m:=n})) 26,bx b4 (A2 ({(A0 d) with n:=n})) 26,bx b3 (A2 (A0 d)) 26,bx b2 (I7 d) 41,bx b1 (A2 ({a with text:=(a.text.take ((if (600:Int)<(a.text.length:Int) then (600:Int) else (a.text.length:Int)).toNat))})) 26],[B3z,B3x,P6,P2,L5,R7],fu)) ((6 - 0)+1) 0 ⟨(Nat.lt_succ_self _),hR⟩ (mk [true,true,true,true,true] rfl) A1.refl ?_))
  rintro fu t51 ⟨hm6,hR⟩
  obtain ⟨fu1,rfl⟩:∃ m,fu=m+1:=⟨fu - 1,by omega⟩
  replace hR:=(Y5.eq_2 ..).symm.trans hR
  refine sr 1 rfl (ip' 1 0 [(52,bv (decide ((t51:Int)<6)))] ?_)
  refine ie (A9 ?_)
  refine zjd rfl hR ?_ ?_<;>clear hR<;>intro hR h7 h7p
  ·refine A6 (nx (A9 (B3 (sr 3 rfl (ix rfl (A4z (v:=ag (A2 (([(⟨a.kind,a.n,a.m,a.color,(a.text.take ((if (600:Int)<(a.text.length:Int) then (600:Int) else (a.text.length:Int)).toNat))⟩:Act),(⟨(A0 d).kind,(A0 d).n,(A0 d).m,((A0 d).color),(A0 d).text⟩:Act),(⟨(A0 d).kind,n,(A0 d).m,((A0 d).color),(A0 d).text⟩:Act),(⟨(A0 d).kind,(A0 d).n,n,((A0 d).color),(A0 d).text⟩:Act),(⟨(A0 d).kind,a.n,a.m,(⟨0,0⟩:Col),[]⟩:Act),(⟨(A0 d).kind,((IntKind.u64.wrap n) % 5),1,(⟨0,0⟩:Col),[]⟩:Act)]:List Act).getD t51 Act.zero))) (c:=A2) (xs:=([(⟨a.kind,a.n,a.m,a.color,(a.text.take ((if (600:Int)<(a.text.length:Int) then (600:Int) else (a.text.length:Int)).toNat))⟩:Act),(⟨(A0 d).kind,(A0 d).n,(A0 d).m,((A0 d).color),(A0 d).text⟩:Act),(⟨(A0 d).kind,n,(A0 d).m,((A0 d).color),(A0 d).text⟩:Act),(⟨(A0 d).kind,(A0 d).n,n,((A0 d).color),(A0 d).text⟩:Act),(⟨(A0 d).kind,a.n,a.m,(⟨0,0⟩:Col),[]⟩:Act),(⟨(A0 d).kind,((IntKind.u64.wrap n) % 5),1,(⟨0,0⟩:Col),[]⟩:Act)]:List Act)) (d:=Act.zero) Tryz.underlying44 A1u (fun _=>rfl) rfl rfl rfl rfl t51 rfl rfl (by omega) rfl rfl) ?_)))))
   refine O2 2 0 [0] (fun b8=>[(11,pt b8 0)]) (fun b8=>[bx b8 (A2 (([(⟨a.kind,a.n,a.m,a.color,(a.text.take ((if (600:Int)<(a.text.length:Int) then (600:Int) else (a.text.length:Int)).toNat))⟩:Act),(⟨(A0 d).kind,(A0 d).n,(A0 d).m,((A0 d).color),(A0 d).text⟩:Act),(⟨(A0 d).kind,n,(A0 d).m,((A0 d).color),(A0 d).text⟩:Act),(⟨(A0 d).kind,(A0 d).n,n,((A0 d).color),(A0 d).text⟩:Act),(⟨(A0 d).kind,a.n,a.m,(⟨0,0⟩:Col),[]⟩:Act),(⟨(A0 d).kind,((IntKind.u64.wrap n) % 5),1,(⟨0,0⟩:Col),[]⟩:Act)]:List Act).getD t51 Act.zero)) 26,bx b5 (A2 ({(A0 d) with m:=n})) 26,bx b4 (A2 ({(A0 d) with n:=n})) 26,bx b3 (A2 (A0 d)) 26,bx b2 (I7 d) 41,bx b1 (A2 ({a with text:=(a.text.take ((if (600:Int)<(a.text.length:Int) then (600:Int) else (a.text.length:Int)).toNat))})) 26]) (fun b8=>?_)
   refine ie (sr 7 rfl (zrl 1 6 [0] [(55,ag (A2 (([(⟨a.kind,a.n,a.m,a.color,(a.text.take ((if (600:Int)<(a.text.length:Int) then (600:Int) else (a.text.length:Int)).toNat))⟩:Act),(⟨(A0 d).kind,(A0 d).n,(A0 d).m,((A0 d).color),(A0 d).text⟩:Act),(⟨(A0 d).kind,n,(A0 d).m,((A0 d).color),(A0 d).text⟩:Act),(⟨(A0 d).kind,(A0 d).n,n,((A0 d).color),(A0 d).text⟩:Act),(⟨(A0 d).kind,a.n,a.m,(⟨0,0⟩:Col),[]⟩:Act),(⟨(A0 d).kind,((IntKind.u64.wrap n) % 5),1,(⟨0,0⟩:Col),[]⟩:Act)]:List Act).getD t51 Act.zero)))] ?_))
   have hQ:=C3 hR;clear hR;obtain ⟨y0,hy0,hR⟩:=hQ
   refine it rfl (B2n (L2:=[bx b8 (A2 (([(⟨a.kind,a.n,a.m,a.color,(a.text.take ((if (600:Int)<(a.text.length:Int) then (600:Int) else (a.text.length:Int)).toNat))⟩:Act),(⟨(A0 d).kind,(A0 d).n,(A0 d).m,((A0 d).color),(A0 d).text⟩:Act),(⟨(A0 d).kind,n,(A0 d).m,((A0 d).color),(A0 d).text⟩:Act),(⟨(A0 d).kind,(A0 d).n,n,((A0 d).color),(A0 d).text⟩:Act),(⟨(A0 d).kind,a.n,a.m,(⟨0,0⟩:Col),[]⟩:Act),(⟨(A0 d).kind,((IntKind.u64.wrap n) % 5),1,(⟨0,0⟩:Col),[]⟩:Act)]:List Act).getD t51 Act.zero)) 26,bx b5 (A2 ({(A0 d) with m:=n})) 26,bx b4 (A2 ({(A0 d) with n:=n})) 26,bx b3 (A2 (A0 d)) 26,bx b2 (I7 d) 41,bx b1 (A2 ({a with text:=(a.text.take ((if (600:Int)<(a.text.length:Int) then (600:Int) else (a.text.length:Int)).toNat))})) 26]) (C3q (([(⟨a.kind,a.n,a.m,a.color,(a.text.take ((if (600:Int)<(a.text.length:Int) then (600:Int) else (a.text.length:Int)).toNat))⟩:Act),(⟨(A0 d).kind,(A0 d).n,(A0 d).m,((A0 d).color),(A0 d).text⟩:Act),(⟨(A0 d).kind,n,(A0 d).m,((A0 d).color),(A0 d).text⟩:Act),(⟨(A0 d).kind,(A0 d).n,n,((A0 d).color),(A0 d).text⟩:Act),(⟨(A0 d).kind,a.n,a.m,(⟨0,0⟩:Col),[]⟩:Act),(⟨(A0 d).kind,((IntKind.u64.wrap n) % 5),1,(⟨0,0⟩:Col),[]⟩:Act)]:List Act).getD t51 Act.zero) (by first|omega|(refine D4f ?_ ?_ ?_ ?_ ?_ ?_ _<;>(first|omega|(dsimp only;omega)|(dsimp only;simp only [List.length_take,List.length_nil];omega)|exact Nat.zero_le _))|(dsimp only;omega)|(dsimp only;simp only [List.length_take,List.length_nil];omega)) y0 hy0) rfl rfl rfl rfl rfl A1.refl (List.Perm.refl _) (fun ⟨r9,hk10⟩=>(bx b8 (A2 (([(⟨a.kind,a.n,a.m,a.color,(a.text.take ((if (600:Int)<(a.text.length:Int) then (600:Int) else (a.text.length:Int)).toNat))⟩:Act),(⟨(A0 d).kind,(A0 d).n,(A0 d).m,((A0 d).color),(A0 d).text⟩:Act),(⟨(A0 d).kind,n,(A0 d).m,((A0 d).color),(A0 d).text⟩:Act),(⟨(A0 d).kind,(A0 d).n,n,((A0 d).color),(A0 d).text⟩:Act),(⟨(A0 d).kind,a.n,a.m,(⟨0,0⟩:Col),[]⟩:Act),(⟨(A0 d).kind,((IntKind.u64.wrap n) % 5),1,(⟨0,0⟩:Col),[]⟩:Act)]:List Act).getD t51 Act.zero)) 26::bx b5 (A2 ({(A0 d) with m:=n})) 26::bx b4 (A2 ({(A0 d) with n:=n})) 26::bx b3 (A2 (A0 d)) 26::bx b2 (I7 d) 41::bx b1 (A2 ({a with text:=(a.text.take ((if (600:Int)<(a.text.length:Int) then (600:Int) else (a.text.length:Int)).toNat))})) 26::(vo cU8 5 r9 y0.1)++([]))) (fun ⟨r9,hk10⟩=>W9 [vo cU8 5 r9 y0.1,[bx b8 (A2 (([(⟨a.kind,a.n,a.m,a.color,(a.text.take ((if (600:Int)<(a.text.length:Int) then (600:Int) else (a.text.length:Int)).toNat))⟩:Act),(⟨(A0 d).kind,(A0 d).n,(A0 d).m,((A0 d).color),(A0 d).text⟩:Act),(⟨(A0 d).kind,n,(A0 d).m,((A0 d).color),(A0 d).text⟩:Act),(⟨(A0 d).kind,(A0 d).n,n,((A0 d).color),(A0 d).text⟩:Act),(⟨(A0 d).kind,a.n,a.m,(⟨0,0⟩:Col),[]⟩:Act),(⟨(A0 d).kind,((IntKind.u64.wrap n) % 5),1,(⟨0,0⟩:Col),[]⟩:Act)]:List Act).getD t51 Act.zero)) 26],[bx b5 (A2 ({(A0 d) with m:=n})) 26],[bx b4 (A2 ({(A0 d) with n:=n})) 26],[bx b3 (A2 (A0 d)) 26],[bx b2 (I7 d) 41],[bx b1 (A2 ({a with text:=(a.text.take ((if (600:Int)<(a.text.length:Int) then (600:Int) else (a.text.length:Int)).toNat))})) 26]] [1,2,3,4,5,6,0] 7 rfl (by decide) (by first|rfl|simp only [List.flatten_cons,List.flatten_nil,List.append_nil,List.cons_append,List.nil_append,List.append_assoc]) [[bx b8 (A2 (([(⟨a.kind,a.n,a.m,a.color,(a.text.take ((if (600:Int)<(a.text.length:Int) then (600:Int) else (a.text.length:Int)).toNat))⟩:Act),(⟨(A0 d).kind,(A0 d).n,(A0 d).m,((A0 d).color),(A0 d).text⟩:Act),(⟨(A0 d).kind,n,(A0 d).m,((A0 d).color),(A0 d).text⟩:Act),(⟨(A0 d).kind,(A0 d).n,n,((A0 d).color),(A0 d).text⟩:Act),(⟨(A0 d).kind,a.n,a.m,(⟨0,0⟩:Col),[]⟩:Act),(⟨(A0 d).kind,((IntKind.u64.wrap n) % 5),1,(⟨0,0⟩:Col),[]⟩:Act)]:List Act).getD t51 Act.zero)) 26],[bx b5 (A2 ({(A0 d) with m:=n})) 26],[bx b4 (A2 ({(A0 d) with n:=n})) 26],[bx b3 (A2 (A0 d)) 26],[bx b2 (I7 d) 41],[bx b1 (A2 ({a with text:=(a.text.take ((if (600:Int)<(a.text.length:Int) then (600:Int) else (a.text.length:Int)).toNat))})) 26],vo cU8 5 r9 y0.1] rfl (by first|rfl|simp only [List.flatten_cons,List.flatten_nil,List.append_nil,List.cons_append,List.nil_append,List.append_assoc]))) fun ⟨r9,hk10⟩=>?_
   have:=VOk.le hk10
   have:=VOk.cap hk10
   refine A7f [bx b8 (A2 (([(⟨a.kind,a.n,a.m,a.color,(a.text.take ((if (600:Int)<(a.text.length:Int) then (600:Int) else (a.text.length:Int)).toNat))⟩:Act),(⟨(A0 d).kind,(A0 d).n,(A0 d).m,((A0 d).color),(A0 d).text⟩:Act),(⟨(A0 d).kind,n,(A0 d).m,((A0 d).color),(A0 d).text⟩:Act),(⟨(A0 d).kind,(A0 d).n,n,((A0 d).color),(A0 d).text⟩:Act),(⟨(A0 d).kind,a.n,a.m,(⟨0,0⟩:Col),[]⟩:Act),(⟨(A0 d).kind,((IntKind.u64.wrap n) % 5),1,(⟨0,0⟩:Col),[]⟩:Act)]:List Act).getD t51 Act.zero)) 26,bx b5 (A2 ({(A0 d) with m:=n})) 26,bx b4 (A2 ({(A0 d) with n:=n})) 26,bx b3 (A2 (A0 d)) 26,bx b2 (I7 d) 41,bx b1 (A2 ({a with text:=(a.text.take ((if (600:Int)<(a.text.length:Int) then (600:Int) else (a.text.length:Int)).toNat))})) 26] [] (T:=5) (c:=cU8) (r:=r9) (xs:=y0.1) hk10 (by first|rfl|simp only [List.cons_append,List.append_assoc,List.nil_append,List.append_nil]) ?_
   refine ip' 5 0 [(12,.slice (va r9.q) y0.1.length r9.k),(13,iv y0.2)] ?_
   refine ie (sr 7 rfl (zrl 1 6 [0] [(60,ag (A2 (([(⟨a.kind,a.n,a.m,a.color,(a.text.take ((if (600:Int)<(a.text.length:Int) then (600:Int) else (a.text.length:Int)).toNat))⟩:Act),(⟨(A0 d).kind,(A0 d).n,(A0 d).m,((A0 d).color),(A0 d).text⟩:Act),(⟨(A0 d).kind,n,(A0 d).m,((A0 d).color),(A0 d).text⟩:Act),(⟨(A0 d).kind,(A0 d).n,n,((A0 d).color),(A0 d).text⟩:Act),(⟨(A0 d).kind,a.n,a.m,(⟨0,0⟩:Col),[]⟩:Act),(⟨(A0 d).kind,((IntKind.u64.wrap n) % 5),1,(⟨0,0⟩:Col),[]⟩:Act)]:List Act).getD t51 Act.zero)))] ?_))
   have hQ:=C3 hR;clear hR;obtain ⟨y1,hy1,hR⟩:=hQ
   refine zcm (C0e (([(⟨a.kind,a.n,a.m,a.color,(a.text.take ((if (600:Int)<(a.text.length:Int) then (600:Int) else (a.text.length:Int)).toNat))⟩:Act),(⟨(A0 d).kind,(A0 d).n,(A0 d).m,((A0 d).color),(A0 d).text⟩:Act),(⟨(A0 d).kind,n,(A0 d).m,((A0 d).color),(A0 d).text⟩:Act),(⟨(A0 d).kind,(A0 d).n,n,((A0 d).color),(A0 d).text⟩:Act),(⟨(A0 d).kind,a.n,a.m,(⟨0,0⟩:Col),[]⟩:Act),(⟨(A0 d).kind,((IntKind.u64.wrap n) % 5),1,(⟨0,0⟩:Col),[]⟩:Act)]:List Act).getD t51 Act.zero) (by first|omega|(refine D4f ?_ ?_ ?_ ?_ ?_ ?_ _<;>(first|omega|(dsimp only;omega)|(dsimp only;simp only [List.length_take,List.length_nil];omega)|exact Nat.zero_le _))|(dsimp only;omega)|(dsimp only;simp only [List.length_take,List.length_nil];omega)) y1 hy1) A1.nil fun ⟨⟨q11,k12⟩,hp13⟩=>?_
   obtain ⟨hc14,hl15⟩:=hp13
   refine ip' 5 0 [(14,.slice q11 y1.1.length k12),(15,iv y1.2)] ?_
   refine ie (sr 10 rfl (ip' 1 9 [(64,.slice (va r9.q) y0.1.length r9.k)] ?_))
   refine ix rfl (A4y Tryz.underlying9 Tryz.underlying30 rfl rfl (B1 1 rfl) rfl (by kernel_rfl)) ?_
   refine ip' 1 7 [(66,.slice q11 y1.1.length k12)] ?_
   refine ix rfl (A4y Tryz.underlying9 Tryz.underlying30 rfl rfl (B1 0 rfl) rfl (by kernel_rfl)) ?_
   refine ix rfl (X0 rfl rfl rfl) ?_
   refine ip' 1 4 [(69,bv (!(decide (y0.1=y1.1))))] ?_
   refine zio 4 0 69 73 (!decide (y0.2=y1.2)) (fun g16=>?_) ?_
   ·have g16p:¬ (¬ y0.1=y1.1):=by simpa using g16
    refine ip' 4 0 [(73,bv (!decide (y0.2=y1.2)))] ?_
    exact zai 2 69 73 g16
   refine ie ?_
   refine zjb rfl hR ?_ ?_<;>clear hR<;>intro hR h17
   ·have h17p:(¬ y0.1=y1.1)∨(¬ y0.2=y1.2):=by simpa using h17
    refine sr 1 rfl (ip' 1 0 [(6,bv false)] ?_)
    subst hR
    refine ie (A5 ?_)
    exact C9 hr hD
   have h17p:¬ ((¬ y0.1=y1.1)∨(¬ y0.2=y1.2)):=by simpa using h17
   refine A6 (nx (A3 2 rfl (ix rfl (B7 rfl rfl rfl rfl (by omega)) ?_)))
   refine ip' 1 0 [(51,iv ((t51:Int)+1))] ?_
   refine A7 ?_
   exact C3t (z1:=(fu1+1)) (z2:=t51) fu1 (t51+1) ⟨(by omega),hR⟩ (Nat.lt_succ_self _) (mk [false,true,true,true,true,true] rfl) (A1.pick [2,3,4,5,6,7] rfl)
  refine H7 (nx (sr 2 rfl (zca (B6f _ rfl) A1.refl ?_)))
  refine ip' 1 0 [(6,bv A3r)] ?_
  subst hR
  refine ie (A5 ?_)
  exact C9 hr hD
 ·refine B3y 3 [bx b3 (A2 (A0 d)) 26,bx b2 (I7 d) 41,bx b1 (A2 ({a with text:=(a.text.take ((if (600:Int)<(a.text.length:Int) then (600:Int) else (a.text.length:Int)).toNat))})) 26] (zml 6 11) rfl rfl rfl (by kernel_rfl) (by kernel_rfl) (by kernel_rfl) (V3 (cs:=A2 Act.zero) C7j rfl) (fun b18=>(mk [false,true,true,true] rfl)) (fun b18=>A1.refl) fun b18=>?_
  refine zho 2 [bx b3 (A2 (A0 d)) 26,bx b2 (I7 d) 41,bx b1 (A2 ({a with text:=(a.text.take ((if (600:Int)<(a.text.length:Int) then (600:Int) else (a.text.length:Int)).toNat))})) 26] (zml 6 15) rfl (V3 (cs:=A2 Act.zero) C7j rfl) (fun b19=>(mk [false,false,true,true,true] rfl)) (fun b19=>A1.refl) fun b19=>?_
  refine zho 4 [bx b3 (A2 (A0 d)) 26,bx b2 (I7 d) 41,bx b1 (A2 ({a with text:=(a.text.take ((if (600:Int)<(a.text.length:Int) then (600:Int) else (a.text.length:Int)).toNat))})) 26] (zml 6 31) rfl (M6 (us:=A2 (A0 d)) (cs':=A2 (A0 d)) A1u rfl rfl rfl 0 rfl rfl rfl rfl rfl rfl) (fun _=>(mk [false,false,true,true,true] rfl)) (fun _=>A1.refl) fun _=>?_
  refine zho 5 [bx b3 (A2 (A0 d)) 26,bx b2 (I7 d) 41,bx b1 (A2 ({a with text:=(a.text.take ((if (600:Int)<(a.text.length:Int) then (600:Int) else (a.text.length:Int)).toNat))})) 26] (zml 6 63) rfl (M6 (us:=A2 (A0 d)) (cs':=A2 (A0 d)) A1u rfl rfl rfl 1 rfl rfl rfl rfl rfl rfl) (fun _=>(mk [false,false,true,true,true] rfl)) (fun _=>A1.refl) fun _=>?_
  refine A6h (by kernel_rfl) ?_
  refine sr 6 rfl (zrg 6 0 [0,1] [] [bx b19 (A2 ({(A0 d) with n:=n})) 26,bx b18 (A2 ({(A0 d) with m:=n})) 26,bx b3 (A2 (A0 d)) 26,bx b2 (I7 d) 41,bx b1 (A2 ({a with text:=(a.text.take ((if (600:Int)<(a.text.length:Int) then (600:Int) else (a.text.length:Int)).toNat))})) 26] ?_)
  refine ie (A9 (sr 20 rfl (zrl 15 5 [4,2,0,1,2,4,4,2] [(32,ag (A2 ({a with text:=(a.text.take ((if (600:Int)<(a.text.length:Int) then (600:Int) else (a.text.length:Int)).toNat))}))),(33,ag (A2 (A0 d))),(34,ag (A2 ({(A0 d) with n:=n}))),(35,ag (A2 ({(A0 d) with m:=n}))),(42,ag (A2 ({Act.zero with kind:=(A0 d).kind,n:=a.n,m:=a.m}))),(44,iv ((A0 d).kind)),(46,.int .u64 (IntKind.u64.wrap n))] ?_)))
  refine ix rfl (U9 (c:=((IntKind.u64.wrap n) % 5)) rfl rfl rfl (by decide) (by first|omega|exact ⟨hun,rfl⟩)) ?_
  refine ix rfl (N7 (c:=((IntKind.u64.wrap n) % 5)) Tryz.underlying3 (by kernel_rfl) rfl rfl (O7 (by first|(simp [IntKind.min,IntKind.signed,IntKind.bits];omega)|(simp [IntKind.max,IntKind.signed,IntKind.bits];omega)) (by first|(simp [IntKind.min,IntKind.signed,IntKind.bits];omega)|(simp [IntKind.max,IntKind.signed,IntKind.bits];omega)))) ?_
  refine zrl 3 0 [] [(50,ag [iv a.kind,iv a.n,iv a.m,iv a.color.kind,iv a.color.n,sv (a.text.take ((if (600:Int)<(a.text.length:Int) then (600:Int) else (a.text.length:Int)).toNat)),iv ((A0 d).kind),iv ((A0 d).n),iv ((A0 d).m),iv (((A0 d).color).kind),iv (((A0 d).color).n),sv ((A0 d).text),iv ((A0 d).kind),iv n,iv ((A0 d).m),iv (((A0 d).color).kind),iv (((A0 d).color).n),sv ((A0 d).text),iv ((A0 d).kind),iv ((A0 d).n),iv n,iv (((A0 d).color).kind),iv (((A0 d).color).n),sv ((A0 d).text),iv ((A0 d).kind),iv a.n,iv a.m,iv 0,iv 0,sv [],iv ((A0 d).kind),iv ((IntKind.u64.wrap n) % 5),iv 1,iv 0,iv 0,sv []]),(51,iv 0)] ?_
  refine ie (B3 (C4d (fun (fu2:Nat) (t511:Nat)=>((6 - t511)<fu2∧A5r a d n fu2 t511=R,[(50,ag [iv a.kind,iv a.n,iv a.m,iv a.color.kind,iv a.color.n,sv (a.text.take ((if (600:Int)<(a.text.length:Int) then (600:Int) else (a.text.length:Int)).toNat)),iv ((A0 d).kind),iv ((A0 d).n),iv ((A0 d).m),iv (((A0 d).color).kind),iv (((A0 d).color).n),sv ((A0 d).text),iv ((A0 d).kind),iv n,iv ((A0 d).m),iv (((A0 d).color).kind),iv (((A0 d).color).n),sv ((A0 d).text),iv ((A0 d).kind),iv ((A0 d).n),iv n,iv (((A0 d).color).kind),iv (((A0 d).color).n),sv ((A0 d).text),iv ((A0 d).kind),iv a.n,iv a.m,iv 0,iv 0,sv [],iv ((A0 d).kind),iv ((IntKind.u64.wrap n) % 5),iv 1,iv 0,iv 0,sv []]),(51,iv (t511:Int))],[bx b19 (A2 ({(A0 d) with n:=n})) 26,bx b18 (A2 ({(A0 d) with m:=n})) 26,bx b3 (A2 (A0 d)) 26,bx b2 (I7 d) 41,bx b1 (A2 ({a with text:=(a.text.take ((if (600:Int)<(a.text.length:Int) then (600:Int) else (a.text.length:Int)).toNat))})) 26],[B3z,B3x,P6,P2,L5,R7],fu2)) ((6 - 0)+1) 0 ⟨(Nat.lt_succ_self _),hR⟩ (mk [true,true,true,true,true] rfl) A1.refl ?_))
  rintro fu2 t511 ⟨hm20,hR⟩
  obtain ⟨fu3,rfl⟩:∃ m,fu2=m+1:=⟨fu2 - 1,by omega⟩
  replace hR:=(A5r.eq_2 ..).symm.trans hR
  refine sr 1 rfl (ip' 1 0 [(52,bv (decide ((t511:Int)<6)))] ?_)
  refine ie (A9 ?_)
  refine zjd rfl hR ?_ ?_<;>clear hR<;>intro hR h21 h21p
  ·refine A6 (nx (A9 (B3 (sr 3 rfl (ix rfl (A4z (v:=ag (A2 (([(⟨a.kind,a.n,a.m,a.color,(a.text.take ((if (600:Int)<(a.text.length:Int) then (600:Int) else (a.text.length:Int)).toNat))⟩:Act),(⟨(A0 d).kind,(A0 d).n,(A0 d).m,((A0 d).color),(A0 d).text⟩:Act),(⟨(A0 d).kind,n,(A0 d).m,((A0 d).color),(A0 d).text⟩:Act),(⟨(A0 d).kind,(A0 d).n,n,((A0 d).color),(A0 d).text⟩:Act),(⟨(A0 d).kind,a.n,a.m,(⟨0,0⟩:Col),[]⟩:Act),(⟨(A0 d).kind,((IntKind.u64.wrap n) % 5),1,(⟨0,0⟩:Col),[]⟩:Act)]:List Act).getD t511 Act.zero))) (c:=A2) (xs:=([(⟨a.kind,a.n,a.m,a.color,(a.text.take ((if (600:Int)<(a.text.length:Int) then (600:Int) else (a.text.length:Int)).toNat))⟩:Act),(⟨(A0 d).kind,(A0 d).n,(A0 d).m,((A0 d).color),(A0 d).text⟩:Act),(⟨(A0 d).kind,n,(A0 d).m,((A0 d).color),(A0 d).text⟩:Act),(⟨(A0 d).kind,(A0 d).n,n,((A0 d).color),(A0 d).text⟩:Act),(⟨(A0 d).kind,a.n,a.m,(⟨0,0⟩:Col),[]⟩:Act),(⟨(A0 d).kind,((IntKind.u64.wrap n) % 5),1,(⟨0,0⟩:Col),[]⟩:Act)]:List Act)) (d:=Act.zero) Tryz.underlying44 A1u (fun _=>rfl) rfl rfl rfl rfl t511 rfl rfl (by omega) rfl rfl) ?_)))))
   refine O2 2 0 [0] (fun b22=>[(11,pt b22 0)]) (fun b22=>[bx b22 (A2 (([(⟨a.kind,a.n,a.m,a.color,(a.text.take ((if (600:Int)<(a.text.length:Int) then (600:Int) else (a.text.length:Int)).toNat))⟩:Act),(⟨(A0 d).kind,(A0 d).n,(A0 d).m,((A0 d).color),(A0 d).text⟩:Act),(⟨(A0 d).kind,n,(A0 d).m,((A0 d).color),(A0 d).text⟩:Act),(⟨(A0 d).kind,(A0 d).n,n,((A0 d).color),(A0 d).text⟩:Act),(⟨(A0 d).kind,a.n,a.m,(⟨0,0⟩:Col),[]⟩:Act),(⟨(A0 d).kind,((IntKind.u64.wrap n) % 5),1,(⟨0,0⟩:Col),[]⟩:Act)]:List Act).getD t511 Act.zero)) 26,bx b19 (A2 ({(A0 d) with n:=n})) 26,bx b18 (A2 ({(A0 d) with m:=n})) 26,bx b3 (A2 (A0 d)) 26,bx b2 (I7 d) 41,bx b1 (A2 ({a with text:=(a.text.take ((if (600:Int)<(a.text.length:Int) then (600:Int) else (a.text.length:Int)).toNat))})) 26]) (fun b22=>?_)
   refine ie (sr 7 rfl (zrl 1 6 [0] [(55,ag (A2 (([(⟨a.kind,a.n,a.m,a.color,(a.text.take ((if (600:Int)<(a.text.length:Int) then (600:Int) else (a.text.length:Int)).toNat))⟩:Act),(⟨(A0 d).kind,(A0 d).n,(A0 d).m,((A0 d).color),(A0 d).text⟩:Act),(⟨(A0 d).kind,n,(A0 d).m,((A0 d).color),(A0 d).text⟩:Act),(⟨(A0 d).kind,(A0 d).n,n,((A0 d).color),(A0 d).text⟩:Act),(⟨(A0 d).kind,a.n,a.m,(⟨0,0⟩:Col),[]⟩:Act),(⟨(A0 d).kind,((IntKind.u64.wrap n) % 5),1,(⟨0,0⟩:Col),[]⟩:Act)]:List Act).getD t511 Act.zero)))] ?_))
   have hQ:=C3 hR;clear hR;obtain ⟨y3,hy3,hR⟩:=hQ
   refine it rfl (B2n (L2:=[bx b22 (A2 (([(⟨a.kind,a.n,a.m,a.color,(a.text.take ((if (600:Int)<(a.text.length:Int) then (600:Int) else (a.text.length:Int)).toNat))⟩:Act),(⟨(A0 d).kind,(A0 d).n,(A0 d).m,((A0 d).color),(A0 d).text⟩:Act),(⟨(A0 d).kind,n,(A0 d).m,((A0 d).color),(A0 d).text⟩:Act),(⟨(A0 d).kind,(A0 d).n,n,((A0 d).color),(A0 d).text⟩:Act),(⟨(A0 d).kind,a.n,a.m,(⟨0,0⟩:Col),[]⟩:Act),(⟨(A0 d).kind,((IntKind.u64.wrap n) % 5),1,(⟨0,0⟩:Col),[]⟩:Act)]:List Act).getD t511 Act.zero)) 26,bx b19 (A2 ({(A0 d) with n:=n})) 26,bx b18 (A2 ({(A0 d) with m:=n})) 26,bx b3 (A2 (A0 d)) 26,bx b2 (I7 d) 41,bx b1 (A2 ({a with text:=(a.text.take ((if (600:Int)<(a.text.length:Int) then (600:Int) else (a.text.length:Int)).toNat))})) 26]) (C3q (([(⟨a.kind,a.n,a.m,a.color,(a.text.take ((if (600:Int)<(a.text.length:Int) then (600:Int) else (a.text.length:Int)).toNat))⟩:Act),(⟨(A0 d).kind,(A0 d).n,(A0 d).m,((A0 d).color),(A0 d).text⟩:Act),(⟨(A0 d).kind,n,(A0 d).m,((A0 d).color),(A0 d).text⟩:Act),(⟨(A0 d).kind,(A0 d).n,n,((A0 d).color),(A0 d).text⟩:Act),(⟨(A0 d).kind,a.n,a.m,(⟨0,0⟩:Col),[]⟩:Act),(⟨(A0 d).kind,((IntKind.u64.wrap n) % 5),1,(⟨0,0⟩:Col),[]⟩:Act)]:List Act).getD t511 Act.zero) (by first|omega|(refine D4f ?_ ?_ ?_ ?_ ?_ ?_ _<;>(first|omega|(dsimp only;omega)|(dsimp only;simp only [List.length_take,List.length_nil];omega)|exact Nat.zero_le _))|(dsimp only;omega)|(dsimp only;simp only [List.length_take,List.length_nil];omega)) y3 hy3) rfl rfl rfl rfl rfl A1.refl (List.Perm.refl _) (fun ⟨r23,hk24⟩=>(bx b22 (A2 (([(⟨a.kind,a.n,a.m,a.color,(a.text.take ((if (600:Int)<(a.text.length:Int) then (600:Int) else (a.text.length:Int)).toNat))⟩:Act),(⟨(A0 d).kind,(A0 d).n,(A0 d).m,((A0 d).color),(A0 d).text⟩:Act),(⟨(A0 d).kind,n,(A0 d).m,((A0 d).color),(A0 d).text⟩:Act),(⟨(A0 d).kind,(A0 d).n,n,((A0 d).color),(A0 d).text⟩:Act),(⟨(A0 d).kind,a.n,a.m,(⟨0,0⟩:Col),[]⟩:Act),(⟨(A0 d).kind,((IntKind.u64.wrap n) % 5),1,(⟨0,0⟩:Col),[]⟩:Act)]:List Act).getD t511 Act.zero)) 26::bx b19 (A2 ({(A0 d) with n:=n})) 26::bx b18 (A2 ({(A0 d) with m:=n})) 26::bx b3 (A2 (A0 d)) 26::bx b2 (I7 d) 41::bx b1 (A2 ({a with text:=(a.text.take ((if (600:Int)<(a.text.length:Int) then (600:Int) else (a.text.length:Int)).toNat))})) 26::(vo cU8 5 r23 y3.1)++([]))) (fun ⟨r23,hk24⟩=>W9 [vo cU8 5 r23 y3.1,[bx b22 (A2 (([(⟨a.kind,a.n,a.m,a.color,(a.text.take ((if (600:Int)<(a.text.length:Int) then (600:Int) else (a.text.length:Int)).toNat))⟩:Act),(⟨(A0 d).kind,(A0 d).n,(A0 d).m,((A0 d).color),(A0 d).text⟩:Act),(⟨(A0 d).kind,n,(A0 d).m,((A0 d).color),(A0 d).text⟩:Act),(⟨(A0 d).kind,(A0 d).n,n,((A0 d).color),(A0 d).text⟩:Act),(⟨(A0 d).kind,a.n,a.m,(⟨0,0⟩:Col),[]⟩:Act),(⟨(A0 d).kind,((IntKind.u64.wrap n) % 5),1,(⟨0,0⟩:Col),[]⟩:Act)]:List Act).getD t511 Act.zero)) 26],[bx b19 (A2 ({(A0 d) with n:=n})) 26],[bx b18 (A2 ({(A0 d) with m:=n})) 26],[bx b3 (A2 (A0 d)) 26],[bx b2 (I7 d) 41],[bx b1 (A2 ({a with text:=(a.text.take ((if (600:Int)<(a.text.length:Int) then (600:Int) else (a.text.length:Int)).toNat))})) 26]] [1,2,3,4,5,6,0] 7 rfl (by decide) (by first|rfl|simp only [List.flatten_cons,List.flatten_nil,List.append_nil,List.cons_append,List.nil_append,List.append_assoc]) [[bx b22 (A2 (([(⟨a.kind,a.n,a.m,a.color,(a.text.take ((if (600:Int)<(a.text.length:Int) then (600:Int) else (a.text.length:Int)).toNat))⟩:Act),(⟨(A0 d).kind,(A0 d).n,(A0 d).m,((A0 d).color),(A0 d).text⟩:Act),(⟨(A0 d).kind,n,(A0 d).m,((A0 d).color),(A0 d).text⟩:Act),(⟨(A0 d).kind,(A0 d).n,n,((A0 d).color),(A0 d).text⟩:Act),(⟨(A0 d).kind,a.n,a.m,(⟨0,0⟩:Col),[]⟩:Act),(⟨(A0 d).kind,((IntKind.u64.wrap n) % 5),1,(⟨0,0⟩:Col),[]⟩:Act)]:List Act).getD t511 Act.zero)) 26],[bx b19 (A2 ({(A0 d) with n:=n})) 26],[bx b18 (A2 ({(A0 d) with m:=n})) 26],[bx b3 (A2 (A0 d)) 26],[bx b2 (I7 d) 41],[bx b1 (A2 ({a with text:=(a.text.take ((if (600:Int)<(a.text.length:Int) then (600:Int) else (a.text.length:Int)).toNat))})) 26],vo cU8 5 r23 y3.1] rfl (by first|rfl|simp only [List.flatten_cons,List.flatten_nil,List.append_nil,List.cons_append,List.nil_append,List.append_assoc]))) fun ⟨r23,hk24⟩=>?_
   have:=VOk.le hk24
   have:=VOk.cap hk24
   refine A7f [bx b22 (A2 (([(⟨a.kind,a.n,a.m,a.color,(a.text.take ((if (600:Int)<(a.text.length:Int) then (600:Int) else (a.text.length:Int)).toNat))⟩:Act),(⟨(A0 d).kind,(A0 d).n,(A0 d).m,((A0 d).color),(A0 d).text⟩:Act),(⟨(A0 d).kind,n,(A0 d).m,((A0 d).color),(A0 d).text⟩:Act),(⟨(A0 d).kind,(A0 d).n,n,((A0 d).color),(A0 d).text⟩:Act),(⟨(A0 d).kind,a.n,a.m,(⟨0,0⟩:Col),[]⟩:Act),(⟨(A0 d).kind,((IntKind.u64.wrap n) % 5),1,(⟨0,0⟩:Col),[]⟩:Act)]:List Act).getD t511 Act.zero)) 26,bx b19 (A2 ({(A0 d) with n:=n})) 26,bx b18 (A2 ({(A0 d) with m:=n})) 26,bx b3 (A2 (A0 d)) 26,bx b2 (I7 d) 41,bx b1 (A2 ({a with text:=(a.text.take ((if (600:Int)<(a.text.length:Int) then (600:Int) else (a.text.length:Int)).toNat))})) 26] [] (T:=5) (c:=cU8) (r:=r23) (xs:=y3.1) hk24 (by first|rfl|simp only [List.cons_append,List.append_assoc,List.nil_append,List.append_nil]) ?_
   refine ip' 5 0 [(12,.slice (va r23.q) y3.1.length r23.k),(13,iv y3.2)] ?_
   refine ie (sr 7 rfl (zrl 1 6 [0] [(60,ag (A2 (([(⟨a.kind,a.n,a.m,a.color,(a.text.take ((if (600:Int)<(a.text.length:Int) then (600:Int) else (a.text.length:Int)).toNat))⟩:Act),(⟨(A0 d).kind,(A0 d).n,(A0 d).m,((A0 d).color),(A0 d).text⟩:Act),(⟨(A0 d).kind,n,(A0 d).m,((A0 d).color),(A0 d).text⟩:Act),(⟨(A0 d).kind,(A0 d).n,n,((A0 d).color),(A0 d).text⟩:Act),(⟨(A0 d).kind,a.n,a.m,(⟨0,0⟩:Col),[]⟩:Act),(⟨(A0 d).kind,((IntKind.u64.wrap n) % 5),1,(⟨0,0⟩:Col),[]⟩:Act)]:List Act).getD t511 Act.zero)))] ?_))
   have hQ:=C3 hR;clear hR;obtain ⟨y4,hy4,hR⟩:=hQ
   refine zcm (C0e (([(⟨a.kind,a.n,a.m,a.color,(a.text.take ((if (600:Int)<(a.text.length:Int) then (600:Int) else (a.text.length:Int)).toNat))⟩:Act),(⟨(A0 d).kind,(A0 d).n,(A0 d).m,((A0 d).color),(A0 d).text⟩:Act),(⟨(A0 d).kind,n,(A0 d).m,((A0 d).color),(A0 d).text⟩:Act),(⟨(A0 d).kind,(A0 d).n,n,((A0 d).color),(A0 d).text⟩:Act),(⟨(A0 d).kind,a.n,a.m,(⟨0,0⟩:Col),[]⟩:Act),(⟨(A0 d).kind,((IntKind.u64.wrap n) % 5),1,(⟨0,0⟩:Col),[]⟩:Act)]:List Act).getD t511 Act.zero) (by first|omega|(refine D4f ?_ ?_ ?_ ?_ ?_ ?_ _<;>(first|omega|(dsimp only;omega)|(dsimp only;simp only [List.length_take,List.length_nil];omega)|exact Nat.zero_le _))|(dsimp only;omega)|(dsimp only;simp only [List.length_take,List.length_nil];omega)) y4 hy4) A1.nil fun ⟨⟨q25,k26⟩,hp27⟩=>?_
   obtain ⟨hc28,hl29⟩:=hp27
   refine ip' 5 0 [(14,.slice q25 y4.1.length k26),(15,iv y4.2)] ?_
   refine ie (sr 10 rfl (ip' 1 9 [(64,.slice (va r23.q) y3.1.length r23.k)] ?_))
   refine ix rfl (A4y Tryz.underlying9 Tryz.underlying30 rfl rfl (B1 1 rfl) rfl (by kernel_rfl)) ?_
   refine ip' 1 7 [(66,.slice q25 y4.1.length k26)] ?_
   refine ix rfl (A4y Tryz.underlying9 Tryz.underlying30 rfl rfl (B1 0 rfl) rfl (by kernel_rfl)) ?_
   refine ix rfl (X0 rfl rfl rfl) ?_
   refine ip' 1 4 [(69,bv (!(decide (y3.1=y4.1))))] ?_
   refine zio 4 0 69 73 (!decide (y3.2=y4.2)) (fun g30=>?_) ?_
   ·have g30p:¬ (¬ y3.1=y4.1):=by simpa using g30
    refine ip' 4 0 [(73,bv (!decide (y3.2=y4.2)))] ?_
    exact zai 2 69 73 g30
   refine ie ?_
   refine zjb rfl hR ?_ ?_<;>clear hR<;>intro hR h31
   ·have h31p:(¬ y3.1=y4.1)∨(¬ y3.2=y4.2):=by simpa using h31
    refine sr 1 rfl (ip' 1 0 [(6,bv false)] ?_)
    subst hR
    refine ie (A5 ?_)
    exact C9 hr hD
   have h31p:¬ ((¬ y3.1=y4.1)∨(¬ y3.2=y4.2)):=by simpa using h31
   refine A6 (nx (A3 2 rfl (ix rfl (B7 rfl rfl rfl rfl (by omega)) ?_)))
   refine ip' 1 0 [(51,iv ((t511:Int)+1))] ?_
   refine A7 ?_
   exact C3t (z1:=(fu3+1)) (z2:=t511) fu3 (t511+1) ⟨(by omega),hR⟩ (Nat.lt_succ_self _) (mk [false,true,true,true,true,true] rfl) (A1.pick [2,3,4,5,6,7] rfl)
  refine H7 (nx (sr 2 rfl (zca (B6f _ rfl) A1.refl ?_)))
  refine ip' 1 0 [(6,bv A3r)] ?_
  subst hR
  refine ie (A5 ?_)
  exact C9 hr hD
end Go.Proofs.YtanighkpfmgnbaaGreatDoor
