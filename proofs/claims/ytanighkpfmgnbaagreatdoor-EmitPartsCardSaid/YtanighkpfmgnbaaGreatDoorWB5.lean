import Derived.Test.YtanighkpfmgnbaaGreatDoorProg
import Derived.Test.YtanighkpfmgnbaaGreatDoorWA2
import Derived.Test.YtanighkpfmgnbaaGreatDoorWB1
import Derived.Test.YtanighkpfmgnbaaGreatDoorWA3
import Derived.Test.YtanighkpfmgnbaaGreatDoorWB2
import Derived.Test.YtanighkpfmgnbaaGreatDoorWB3
import Derived.Test.YtanighkpfmgnbaaGreatDoorWB4
set_option linter.unusedVariables false
set_option linter.unusedSimpArgs false
set_option linter.unnecessarySimpa false
set_option maxRecDepth 100000
namespace Go.Proofs.YtanighkpfmgnbaaGreatDoor
open Go Go.Fen
theorem E4l:ApTy Tryz.prog 27 26 6 56:=⟨by kernel_rfl,by kernel_rfl,rfl⟩
theorem E4g:SlTy Tryz.prog 22 41 5:=⟨by kernel_rfl,by kernel_rfl⟩
theorem D6q:Ty Tryz.prog 38 1 false:=⟨by kernel_rfl⟩
theorem E5w:Ty Tryz.prog 39 1 false:=⟨by kernel_rfl⟩
theorem E5x:Ty Tryz.prog 41 5 true:=⟨by kernel_rfl⟩
theorem B9o {P:Program} {X:Cx} {E:Env} {L:Fen.Own} {Φ:List Pers} {o:Oper} {T e sz b:Nat} {x y:Operand} {len cap:Nat} {kd:IntKind} {m:Int} (hT:SlTy P T e sz) (ho:o.op=.indexAddr T x y)
  (hx:ev E x=some (.slice (some ⟨b,0,none⟩) len cap)) (hy:ev E y=some (.int kd m)) (k:Nat) (hk:m=k) (hl:k<len):G8 P X o E L Φ (.pointer (some ⟨b,k * sz,none⟩)):=.of_run fun ac w ha _=>by
 subst hk
 have h1:(0:Int)≤k∧(k:Int)<len:=by omega
 simp [execOp,ho,B9 ha hx,B9 ha hy,Instr.indexAt,asIntOf,run_underlying hT.ty,hT.run,h1,Nat.not_le.2 hl,Z5]
def B0u (d:Drf):Prop:=(0≤d.kind∧d.kind≤65535)∧(0≤d.n∧d.n≤65535)∧(0≤d.m∧d.m≤65535)∧(0≤d.rgb∧d.rgb≤4294967295)
def A0r (d:Drf) (t42:Bool):Act :=
 (bif t42 then (bif (decide ((d.m % 4)=1)) then {Act.zero with kind:=39,n:=(d.n % 7),color:=(⟨2,(d.rgb % 16777216)⟩:Col)} else (bif (decide ((d.m % 4)=2)) then {Act.zero with kind:=39,n:=(d.n % 7),color:=(⟨1,(d.rgb % 256)⟩:Col)} else (bif (decide ((d.m % 4)=3)) then {Act.zero with kind:=39,n:=(d.n % 7),color:=(⟨1,(d.rgb % 18)⟩:Col)} else {Act.zero with kind:=39,n:=(d.n % 7)}))) else {Act.zero with kind:=39,n:=(d.n % 7)})
def A3m (d:Drf):Act :=
 (bif (decide ((d.n % 7)=1)) then {Act.zero with kind:=39,n:=(d.n % 7),m:=((([4,8,16,32,64,128]:List Int)++([1,2]:List Int)).getD ((d.m % 8).toNat) 0)} else (bif (decide ((d.n % 7)=2)) then {Act.zero with kind:=39,n:=(d.n % 7),m:=((([4,8,16,32,64,128]:List Int)++([3]:List Int)).getD ((d.m % 7).toNat) 0)} else (bif (decide ((d.n % 7)=3)) then {Act.zero with kind:=39,n:=(d.n % 7),m:=(d.m % 6)} else (bif (decide ((d.n % 7)=4)) then A0r d (decide ((d.n % 7)=4)) else (bif (decide ((d.n % 7)=5)) then A0r d (decide ((d.n % 7)=5)) else A0r d (decide ((d.n % 7)=6)))))))
theorem D0c (d:Drf) (hd:B0u d) (R:Act) (hR:A3m d=R):I6 Tryz.prog 44 [ag (L4 d)] [] (ag (A5 R)):=by
 refine zco Tryz.func44 [(0,ag (L4 d))] fun X hX hr hD=>?_
 replace hR:=(A3m.eq_1 ..).symm.trans hR
 have hdi:=hd;unfold B0u at hdi
 have hl8:(([4,8,16,32,64,128]:List Int)++([1,2]:List Int)).length=8:=rfl
 have hl7:(([4,8,16,32,64,128]:List Int)++([3]:List Int)).length=7:=rfl
 refine sr 2 rfl (C6i 2 0 [] (fun b1 b2=>[(1,pt b1 0),(2,pt b2 0)]) (fun b1 b2=>[bx b2 (A5 Act.zero) 26,bx b1 (L4 d) 41]) (fun b1 b2=>?_))
 refine ie (sr 7 rfl (zrl 2 5 [1] [(6,.int .u16 d.n)] ?_))
 refine ix rfl (V6 (c:=(d.n % 7)) rfl rfl rfl (by decide) (by omega)) ?_
 refine ix rfl (N3 (c:=(d.n % 7)) Tryz.underlying3 (by kernel_rfl) rfl rfl (O4 (by first|(simp [IntKind.min,IntKind.signed,IntKind.bits];omega)|(simp [IntKind.max,IntKind.signed,IntKind.bits];omega)) (by first|(simp [IntKind.min,IntKind.signed,IntKind.bits];omega)|(simp [IntKind.max,IntKind.signed,IntKind.bits];omega)))) ?_
 refine P0 3 0 [0] (fun b3=>[(3,pt b3 0)]) (fun b3=>[bx b3 (A5 ({Act.zero with kind:=39,n:=(d.n % 7)})) 26,bx b2 (A5 Act.zero) 26,bx b1 (L4 d) 41]) (fun b3=>?_)
 refine ie (sr 3 rfl (P0 3 0 [0] (fun b4=>[(4,pt b4 0)]) (fun b4=>[bx b4 [iv 4,iv 8,iv 16,iv 32,iv 64,iv 128] 147,bx b3 (A5 ({Act.zero with kind:=39,n:=(d.n % 7)})) 26,bx b2 (A5 Act.zero) 26,bx b1 (L4 d) 41]) (fun b4=>?_)))
 refine ie (A8 (sr 2 rfl (zrl 2 0 [1] [(12,iv (d.n % 7))] ?_)))
 refine ie (B3 (sr 2 rfl (ip' 2 0 [(13,bv (decide ((d.n % 7)=1)))] ?_)))
 refine ie ?_
 refine zjd rfl hR ?_ ?_<;>clear hR<;>intro hR h5 h5p
 ·refine E0m 0 rfl ?_
  refine B2f (show V9 _ (sl D9 (some ⟨b4,0,none⟩) ([4,8,16,32,64,128]:List Int)) from B0 0 rfl) ?_
  refine sh' 10 [(9,[bx b3 (A5 ({Act.zero with kind:=39,n:=(d.n % 7)})) 26]),(10,[bx b2 (A5 Act.zero) 26]),(10,[bx b1 (L4 d) 41])] [sl D9 (some ⟨b4,0,none⟩) ([4,8,16,32,64,128]:List Int),at_ ⟨b4,0,none⟩ [iv 4,iv 8,iv 16,iv 32,iv 64,iv 128]] [bx b3 (A5 ({Act.zero with kind:=39,n:=(d.n % 7)})) 26,bx b2 (A5 Act.zero) 26,bx b1 (L4 d) 41] (zml 10 0) (by kernel_rfl) rfl (by kernel_rfl) (by kernel_rfl) (by kernel_rfl) (mk [true,true,true] rfl) A1.refl ?_
  refine zhp [3] 9 (zml 10 8) [(18,pt b1 2)] ?_
  refine zhk 0 (zml 10 9) rfl (B1x Tryz.underlying147 ty3 rfl rfl) ?_
  have:([4,8,16,32,64,128]:List Int).length=6:=rfl
  refine zhl 4 [bx b3 (A5 ({Act.zero with kind:=39,n:=(d.n % 7)})) 26,bx b2 (A5 Act.zero) 26,bx b1 (L4 d) 41] (zml 10 25) rfl (B4 (v:=.int .u16 d.m) D6q rfl rfl 2 rfl rfl) ?_
  refine zhk 5 (zml 10 57) rfl (V6 (c:=(d.m % 8)) rfl rfl rfl (by decide) (by omega)) ?_
  refine zho 1 [bx b3 (A5 ({Act.zero with kind:=39,n:=(d.n % 7)})) 26,bx b2 (A5 Act.zero) 26,bx b1 (L4 d) 41] (zml 10 59) rfl (B6 (c:=D9) (xs:=([1,2]:List Int)) H4 rfl rfl rfl (by kernel_rfl)) (fun b6=>(mk [true,true,true] rfl)) (fun b6=>(A1.pick [1,2] rfl)) fun b6=>?_
  have:([1,2]:List Int).length=2:=rfl
  refine zho 2 [bx b3 (A5 ({Act.zero with kind:=39,n:=(d.n % 7)})) 26,bx b2 (A5 Act.zero) 26,bx b1 (L4 d) 41] (zml 10 63) rfl (C3j (f:=D9) (xs:=([4,8,16,32,64,128]:List Int)) (ys:=([1,2]:List Int)) B6e (fun _=>rfl) (fun _=>rfl) rfl rfl rfl rfl rfl rfl (by omega) (by omega) (by rfl) (B0 1 rfl) (B0 0 rfl) (by simp) (by first|omega|(simp<;>omega)) (by first|omega|(simp<;>omega))) (fun ⟨r7,hr8⟩=>(mc [[bx b3 (A5 ({Act.zero with kind:=39,n:=(d.n % 7)})) 26],[bx b2 (A5 Act.zero) 26],[bx b1 (L4 d) 41],vo D9 3 r7 (([4,8,16,32,64,128]:List Int)++([1,2]:List Int))] [true,true,true,false] rfl (by first|rfl|(simp only [List.length_set]<;>rfl)))) (fun ⟨r7,hr8⟩=>(A1.pick [1,2] rfl)) fun ⟨r7,hr8⟩=>?_
  have:=VOk.le hr8
  have:=VOk.cap hr8
  obtain ⟨b9,hb10⟩:=VOk.some hr8 (by omega)
  obtain ⟨q11,k12,j13⟩:=r7
  obtain rfl:q11=some b9:=hb10
  refine zhl 6 [bx b3 (A5 ({Act.zero with kind:=39,n:=(d.n % 7)})) 26,bx b2 (A5 Act.zero) 26,bx b1 (L4 d) 41] (zml 10 127) rfl (B9o H4 rfl rfl rfl ((d.m % 8).toNat) (by omega) (by omega)) ?_
  refine zho 7 [bx b3 (A5 ({Act.zero with kind:=39,n:=(d.n % 7)})) 26,bx b2 (A5 Act.zero) 26,bx b1 (L4 d) 41] (zml 10 255) rfl (Det.tri (G8.det (N2 (u:=iv ((([4,8,16,32,64,128]:List Int)++([1,2]:List Int)).getD ((d.m % 8).toNat) 0)) (c:=D9) (sz:=1) ty3 (fun _=>rfl) rfl rfl 3 rfl ((d.m % 8).toNat) 0 rfl (gd 0 (by omega)) rfl))) (fun _=>(mc [[bx b3 (A5 ({Act.zero with kind:=39,n:=(d.n % 7)})) 26],[bx b2 (A5 Act.zero) 26],[bx b1 (L4 d) 41],vo D9 3 (⟨some b9,k12,j13⟩:VR) (([4,8,16,32,64,128]:List Int)++([1,2]:List Int))] [true,true,true,false] rfl (by first|rfl|(simp only [List.length_set]<;>rfl)))) (fun _=>(A1.pick [1,2] rfl)) fun _=>?_
  refine zhp [8] 1 (zml 10 511) [(23,pt b3 2)] ?_
  refine zho 9 [bx b2 (A5 Act.zero) 26,bx b1 (L4 d) 41] (zml 10 1023) rfl (O2 (us:=[iv ((([4,8,16,32,64,128]:List Int)++([1,2]:List Int)).getD ((d.m % 8).toNat) 0)]) (cs':=A5 ({Act.zero with kind:=39,n:=(d.n % 7),m:=((([4,8,16,32,64,128]:List Int)++([1,2]:List Int)).getD ((d.m % 8).toNat) 0)})) ty3 rfl rfl rfl 0 rfl rfl rfl rfl rfl rfl) (fun _=>(mc [[bx b3 (A5 ({Act.zero with kind:=39,n:=(d.n % 7),m:=((([4,8,16,32,64,128]:List Int)++([1,2]:List Int)).getD ((d.m % 8).toNat) 0)})) 26],[bx b2 (A5 Act.zero) 26],[bx b1 (L4 d) 41],vo D9 3 (⟨some b9,k12,j13⟩:VR) (([4,8,16,32,64,128]:List Int)++([1,2]:List Int))] [false,true,true,false] rfl (by first|rfl|(simp only [List.length_set]<;>rfl)))) (fun _=>(A1.pick [1,2] rfl)) fun _=>?_
  refine B7s (by kernel_rfl) ?_
  refine nx (sr 2 rfl (zrg 2 0 [0,1] [] (bx b3 (A5 ({Act.zero with kind:=39,n:=(d.n % 7),m:=((([4,8,16,32,64,128]:List Int)++([1,2]:List Int)).getD ((d.m % 8).toNat) 0)})) 26::bx b2 (A5 ({Act.zero with kind:=39,n:=(d.n % 7),m:=((([4,8,16,32,64,128]:List Int)++([1,2]:List Int)).getD ((d.m % 8).toNat) 0)})) 26::bx b1 (L4 d) 41::(vo D9 3 (⟨some b9,k12,j13⟩:VR) (([4,8,16,32,64,128]:List Int)++([1,2]:List Int)))++([])) ?_))
  subst hR
  refine ie (A9 ?_)
  exact zer hr hD (M9 rfl (F0 (us:=A5 ({Act.zero with kind:=39,n:=(d.n % 7),m:=((([4,8,16,32,64,128]:List Int)++([1,2]:List Int)).getD ((d.m % 8).toNat) 0)})) A3v rfl 1 rfl rfl rfl)) () (List.nil_sublist _) fn0
 refine sr 2 rfl (ip' 2 0 [(24,bv (decide ((d.n % 7)=2)))] ?_)
 refine ie ?_
 refine zjd rfl hR ?_ ?_<;>clear hR<;>intro hR h14 h14p
 ·refine E0m 0 rfl ?_
  refine B2f (show V9 _ (sl D9 (some ⟨b4,0,none⟩) ([4,8,16,32,64,128]:List Int)) from B0 0 rfl) ?_
  refine sh' 10 [(9,[bx b3 (A5 ({Act.zero with kind:=39,n:=(d.n % 7)})) 26]),(10,[bx b2 (A5 Act.zero) 26]),(10,[bx b1 (L4 d) 41])] [sl D9 (some ⟨b4,0,none⟩) ([4,8,16,32,64,128]:List Int),at_ ⟨b4,0,none⟩ [iv 4,iv 8,iv 16,iv 32,iv 64,iv 128]] [bx b3 (A5 ({Act.zero with kind:=39,n:=(d.n % 7)})) 26,bx b2 (A5 Act.zero) 26,bx b1 (L4 d) 41] (zml 10 0) (by kernel_rfl) rfl (by kernel_rfl) (by kernel_rfl) (by kernel_rfl) (mk [true,true,true] rfl) A1.refl ?_
  refine zhp [3] 9 (zml 10 8) [(29,pt b1 2)] ?_
  refine zhk 0 (zml 10 9) rfl (B1x Tryz.underlying147 ty3 rfl rfl) ?_
  have:([4,8,16,32,64,128]:List Int).length=6:=rfl
  refine zhl 4 [bx b3 (A5 ({Act.zero with kind:=39,n:=(d.n % 7)})) 26,bx b2 (A5 Act.zero) 26,bx b1 (L4 d) 41] (zml 10 25) rfl (B4 (v:=.int .u16 d.m) D6q rfl rfl 2 rfl rfl) ?_
  refine zhk 5 (zml 10 57) rfl (V6 (c:=(d.m % 7)) rfl rfl rfl (by decide) (by omega)) ?_
  refine zho 1 [bx b3 (A5 ({Act.zero with kind:=39,n:=(d.n % 7)})) 26,bx b2 (A5 Act.zero) 26,bx b1 (L4 d) 41] (zml 10 59) rfl (B6 (c:=D9) (xs:=([3]:List Int)) H4 rfl rfl rfl (by kernel_rfl)) (fun b15=>(mk [true,true,true] rfl)) (fun b15=>(A1.pick [1,2] rfl)) fun b15=>?_
  have:([3]:List Int).length=1:=rfl
  refine zho 2 [bx b3 (A5 ({Act.zero with kind:=39,n:=(d.n % 7)})) 26,bx b2 (A5 Act.zero) 26,bx b1 (L4 d) 41] (zml 10 63) rfl (C3j (f:=D9) (xs:=([4,8,16,32,64,128]:List Int)) (ys:=([3]:List Int)) B6e (fun _=>rfl) (fun _=>rfl) rfl rfl rfl rfl rfl rfl (by omega) (by omega) (by rfl) (B0 1 rfl) (B0 0 rfl) (by simp) (by first|omega|(simp<;>omega)) (by first|omega|(simp<;>omega))) (fun ⟨r16,hr17⟩=>(mc [[bx b3 (A5 ({Act.zero with kind:=39,n:=(d.n % 7)})) 26],[bx b2 (A5 Act.zero) 26],[bx b1 (L4 d) 41],vo D9 3 r16 (([4,8,16,32,64,128]:List Int)++([3]:List Int))] [true,true,true,false] rfl (by first|rfl|(simp only [List.length_set]<;>rfl)))) (fun ⟨r16,hr17⟩=>(A1.pick [1,2] rfl)) fun ⟨r16,hr17⟩=>?_
  have:=VOk.le hr17
  have:=VOk.cap hr17
  obtain ⟨b18,hb19⟩:=VOk.some hr17 (by omega)
  obtain ⟨q20,k21,j22⟩:=r16
  obtain rfl:q20=some b18:=hb19
  refine zhl 6 [bx b3 (A5 ({Act.zero with kind:=39,n:=(d.n % 7)})) 26,bx b2 (A5 Act.zero) 26,bx b1 (L4 d) 41] (zml 10 127) rfl (B9o H4 rfl rfl rfl ((d.m % 7).toNat) (by omega) (by omega)) ?_
  refine zho 7 [bx b3 (A5 ({Act.zero with kind:=39,n:=(d.n % 7)})) 26,bx b2 (A5 Act.zero) 26,bx b1 (L4 d) 41] (zml 10 255) rfl (Det.tri (G8.det (N2 (u:=iv ((([4,8,16,32,64,128]:List Int)++([3]:List Int)).getD ((d.m % 7).toNat) 0)) (c:=D9) (sz:=1) ty3 (fun _=>rfl) rfl rfl 3 rfl ((d.m % 7).toNat) 0 rfl (gd 0 (by omega)) rfl))) (fun _=>(mc [[bx b3 (A5 ({Act.zero with kind:=39,n:=(d.n % 7)})) 26],[bx b2 (A5 Act.zero) 26],[bx b1 (L4 d) 41],vo D9 3 (⟨some b18,k21,j22⟩:VR) (([4,8,16,32,64,128]:List Int)++([3]:List Int))] [true,true,true,false] rfl (by first|rfl|(simp only [List.length_set]<;>rfl)))) (fun _=>(A1.pick [1,2] rfl)) fun _=>?_
  refine zhp [8] 1 (zml 10 511) [(34,pt b3 2)] ?_
  refine zho 9 [bx b2 (A5 Act.zero) 26,bx b1 (L4 d) 41] (zml 10 1023) rfl (O2 (us:=[iv ((([4,8,16,32,64,128]:List Int)++([3]:List Int)).getD ((d.m % 7).toNat) 0)]) (cs':=A5 ({Act.zero with kind:=39,n:=(d.n % 7),m:=((([4,8,16,32,64,128]:List Int)++([3]:List Int)).getD ((d.m % 7).toNat) 0)})) ty3 rfl rfl rfl 0 rfl rfl rfl rfl rfl rfl) (fun _=>(mc [[bx b3 (A5 ({Act.zero with kind:=39,n:=(d.n % 7),m:=((([4,8,16,32,64,128]:List Int)++([3]:List Int)).getD ((d.m % 7).toNat) 0)})) 26],[bx b2 (A5 Act.zero) 26],[bx b1 (L4 d) 41],vo D9 3 (⟨some b18,k21,j22⟩:VR) (([4,8,16,32,64,128]:List Int)++([3]:List Int))] [false,true,true,false] rfl (by first|rfl|(simp only [List.length_set]<;>rfl)))) (fun _=>(A1.pick [1,2] rfl)) fun _=>?_
  refine B7s (by kernel_rfl) ?_
  refine nx (sr 2 rfl (zrg 2 0 [0,1] [] (bx b3 (A5 ({Act.zero with kind:=39,n:=(d.n % 7),m:=((([4,8,16,32,64,128]:List Int)++([3]:List Int)).getD ((d.m % 7).toNat) 0)})) 26::bx b2 (A5 ({Act.zero with kind:=39,n:=(d.n % 7),m:=((([4,8,16,32,64,128]:List Int)++([3]:List Int)).getD ((d.m % 7).toNat) 0)})) 26::bx b1 (L4 d) 41::(vo D9 3 (⟨some b18,k21,j22⟩:VR) (([4,8,16,32,64,128]:List Int)++([3]:List Int)))++([])) ?_))
  subst hR
  refine ie (A9 ?_)
  exact zer hr hD (M9 rfl (F0 (us:=A5 ({Act.zero with kind:=39,n:=(d.n % 7),m:=((([4,8,16,32,64,128]:List Int)++([3]:List Int)).getD ((d.m % 7).toNat) 0)})) A3v rfl 1 rfl rfl rfl)) () (List.nil_sublist _) fn0
 refine sr 2 rfl (ip' 2 0 [(35,bv (decide ((d.n % 7)=3)))] ?_)
 refine ie ?_
 refine zjd rfl hR ?_ ?_<;>clear hR<;>intro hR h23 h23p
 ·refine A2 6 rfl (zrl 2 4 [3] [(38,.int .u16 d.m)] ?_)
  refine ix rfl (V6 (c:=(d.m % 6)) rfl rfl rfl (by decide) (by omega)) ?_
  refine ix rfl (N3 (c:=(d.m % 6)) Tryz.underlying3 (by kernel_rfl) rfl rfl (O4 (by first|(simp [IntKind.min,IntKind.signed,IntKind.bits];omega)|(simp [IntKind.max,IntKind.signed,IntKind.bits];omega)) (by first|(simp [IntKind.min,IntKind.signed,IntKind.bits];omega)|(simp [IntKind.max,IntKind.signed,IntKind.bits];omega)))) ?_
  refine zrg 2 0 [1] [] [bx b4 [iv 4,iv 8,iv 16,iv 32,iv 64,iv 128] 147,bx b3 (A5 ({Act.zero with kind:=39,n:=(d.n % 7),m:=(d.m % 6)})) 26,bx b2 (A5 Act.zero) 26,bx b1 (L4 d) 41] ?_
  refine A3 (nx (sr 2 rfl (zrg 2 0 [1,2] [] [bx b4 [iv 4,iv 8,iv 16,iv 32,iv 64,iv 128] 147,bx b3 (A5 ({Act.zero with kind:=39,n:=(d.n % 7),m:=(d.m % 6)})) 26,bx b2 (A5 ({Act.zero with kind:=39,n:=(d.n % 7),m:=(d.m % 6)})) 26,bx b1 (L4 d) 41] ?_)))
  subst hR
  refine ie (A9 ?_)
  exact zer hr hD (M9 rfl (F0 (us:=A5 ({Act.zero with kind:=39,n:=(d.n % 7),m:=(d.m % 6)})) A3v rfl 2 rfl rfl rfl)) () (mk [false,false,false,false] rfl) fn0
 refine B7n (fun (t42:Bool)=>(A0r d t42=R,[(1,pt b1 0),(2,pt b2 0),(3,pt b3 0),(42,bv t42)],[bx b4 [iv 4,iv 8,iv 16,iv 32,iv 64,iv 128] 147,bx b3 (A5 ({Act.zero with kind:=39,n:=(d.n % 7)})) 26,bx b2 (A5 Act.zero) 26,bx b1 (L4 d) 41],[])) ?_ ?_
 ·refine sr 2 rfl (ip' 2 0 [(42,bv (decide ((d.n % 7)=4)))] ?_)
  refine ie ?_
  refine zjd rfl hR ?_ ?_<;>clear hR<;>intro hR h24 h24p
  ·refine A6 ?_
   exact V5 (decide ((d.n % 7)=4)) hR (mk [true,true,true,true] rfl) fn0
  refine sr 2 rfl (ip' 2 0 [(42,bv (decide ((d.n % 7)=5)))] ?_)
  refine ie ?_
  refine zjd rfl hR ?_ ?_<;>clear hR<;>intro hR h25 h25p
  ·refine A6 ?_
   exact V5 (decide ((d.n % 7)=5)) hR (mk [true,true,true,true] rfl) fn0
  refine A2 2 rfl (ip' 2 0 [(42,bv (decide ((d.n % 7)=6)))] ?_)
  refine A3 ?_
  exact V5 (decide ((d.n % 7)=6)) hR (mk [true,true,true,true] rfl) fn0
 intro t42
 rintro hR
 replace hR:=(A0r.eq_1 ..).symm.trans hR
 refine zjb rfl hR ?_ ?_<;>clear hR<;>intro hR h26
 ·refine sr 3 rfl (zrl 2 1 [3] [(47,.int .u16 d.m)] ?_)
  refine ix rfl (V6 (c:=(d.m % 4)) rfl rfl rfl (by decide) (by omega)) ?_
  refine ie (B3 (sr 2 rfl (ip' 2 0 [(49,bv (decide ((d.m % 4)=1)))] ?_)))
  refine ie ?_
  refine zjd rfl hR ?_ ?_<;>clear hR<;>intro hR h27 h27p
  ·refine A2 7 rfl (zrl 2 5 [3] [(52,.int .u32 d.rgb)] ?_)
   refine ix rfl (V6 (c:=(d.rgb % 16777216)) rfl rfl rfl (by decide) (by omega)) ?_
   refine ix rfl (N3 (c:=(d.rgb % 16777216)) Tryz.underlying3 (by kernel_rfl) rfl rfl (O4 (by first|(simp [IntKind.min,IntKind.signed,IntKind.bits];omega)|(simp [IntKind.max,IntKind.signed,IntKind.bits];omega)) (by first|(simp [IntKind.min,IntKind.signed,IntKind.bits];omega)|(simp [IntKind.max,IntKind.signed,IntKind.bits];omega)))) ?_
   refine zrg 3 0 [1] [] [bx b4 [iv 4,iv 8,iv 16,iv 32,iv 64,iv 128] 147,bx b3 (A5 ({Act.zero with kind:=39,n:=(d.n % 7),color:=(⟨2,(d.rgb % 16777216)⟩:Col)})) 26,bx b2 (A5 Act.zero) 26,bx b1 (L4 d) 41] ?_
   refine A3 (nx (sr 2 rfl (zrg 2 0 [1,2] [] [bx b4 [iv 4,iv 8,iv 16,iv 32,iv 64,iv 128] 147,bx b3 (A5 ({Act.zero with kind:=39,n:=(d.n % 7),color:=(⟨2,(d.rgb % 16777216)⟩:Col)})) 26,bx b2 (A5 ({Act.zero with kind:=39,n:=(d.n % 7),color:=(⟨2,(d.rgb % 16777216)⟩:Col)})) 26,bx b1 (L4 d) 41] ?_)))
   subst hR
   refine ie (A9 ?_)
   exact zer hr hD (M9 rfl (F0 (us:=A5 ({Act.zero with kind:=39,n:=(d.n % 7),color:=(⟨2,(d.rgb % 16777216)⟩:Col)})) A3v rfl 2 rfl rfl rfl)) () (mk [false,false,false,false] rfl) fn0
  refine sr 2 rfl (ip' 2 0 [(57,bv (decide ((d.m % 4)=2)))] ?_)
  refine ie ?_
  refine zjd rfl hR ?_ ?_<;>clear hR<;>intro hR h28 h28p
  ·refine A2 7 rfl (zrl 2 5 [3] [(60,.int .u32 d.rgb)] ?_)
   refine ix rfl (V6 (c:=(d.rgb % 256)) rfl rfl rfl (by decide) (by omega)) ?_
   refine ix rfl (N3 (c:=(d.rgb % 256)) Tryz.underlying3 (by kernel_rfl) rfl rfl (O4 (by first|(simp [IntKind.min,IntKind.signed,IntKind.bits];omega)|(simp [IntKind.max,IntKind.signed,IntKind.bits];omega)) (by first|(simp [IntKind.min,IntKind.signed,IntKind.bits];omega)|(simp [IntKind.max,IntKind.signed,IntKind.bits];omega)))) ?_
   refine zrg 3 0 [1] [] [bx b4 [iv 4,iv 8,iv 16,iv 32,iv 64,iv 128] 147,bx b3 (A5 ({Act.zero with kind:=39,n:=(d.n % 7),color:=(⟨1,(d.rgb % 256)⟩:Col)})) 26,bx b2 (A5 Act.zero) 26,bx b1 (L4 d) 41] ?_
   refine A3 (nx (sr 2 rfl (zrg 2 0 [1,2] [] [bx b4 [iv 4,iv 8,iv 16,iv 32,iv 64,iv 128] 147,bx b3 (A5 ({Act.zero with kind:=39,n:=(d.n % 7),color:=(⟨1,(d.rgb % 256)⟩:Col)})) 26,bx b2 (A5 ({Act.zero with kind:=39,n:=(d.n % 7),color:=(⟨1,(d.rgb % 256)⟩:Col)})) 26,bx b1 (L4 d) 41] ?_)))
   subst hR
   refine ie (A9 ?_)
   exact zer hr hD (M9 rfl (F0 (us:=A5 ({Act.zero with kind:=39,n:=(d.n % 7),color:=(⟨1,(d.rgb % 256)⟩:Col)})) A3v rfl 2 rfl rfl rfl)) () (mk [false,false,false,false] rfl) fn0
  refine sr 2 rfl (ip' 2 0 [(65,bv (decide ((d.m % 4)=3)))] ?_)
  refine ie ?_
  refine zjd rfl hR ?_ ?_<;>clear hR<;>intro hR h29 h29p
  ·refine A2 7 rfl (zrl 2 5 [3] [(68,.int .u32 d.rgb)] ?_)
   refine ix rfl (V6 (c:=(d.rgb % 18)) rfl rfl rfl (by decide) (by omega)) ?_
   refine ix rfl (N3 (c:=(d.rgb % 18)) Tryz.underlying3 (by kernel_rfl) rfl rfl (O4 (by first|(simp [IntKind.min,IntKind.signed,IntKind.bits];omega)|(simp [IntKind.max,IntKind.signed,IntKind.bits];omega)) (by first|(simp [IntKind.min,IntKind.signed,IntKind.bits];omega)|(simp [IntKind.max,IntKind.signed,IntKind.bits];omega)))) ?_
   refine zrg 3 0 [1] [] [bx b4 [iv 4,iv 8,iv 16,iv 32,iv 64,iv 128] 147,bx b3 (A5 ({Act.zero with kind:=39,n:=(d.n % 7),color:=(⟨1,(d.rgb % 18)⟩:Col)})) 26,bx b2 (A5 Act.zero) 26,bx b1 (L4 d) 41] ?_
   refine A3 (nx (sr 2 rfl (zrg 2 0 [1,2] [] [bx b4 [iv 4,iv 8,iv 16,iv 32,iv 64,iv 128] 147,bx b3 (A5 ({Act.zero with kind:=39,n:=(d.n % 7),color:=(⟨1,(d.rgb % 18)⟩:Col)})) 26,bx b2 (A5 ({Act.zero with kind:=39,n:=(d.n % 7),color:=(⟨1,(d.rgb % 18)⟩:Col)})) 26,bx b1 (L4 d) 41] ?_)))
   subst hR
   refine ie (A9 ?_)
   exact zer hr hD (M9 rfl (F0 (us:=A5 ({Act.zero with kind:=39,n:=(d.n % 7),color:=(⟨1,(d.rgb % 18)⟩:Col)})) A3v rfl 2 rfl rfl rfl)) () (mk [false,false,false,false] rfl) fn0
  refine A6 (nx (sr 2 rfl (zrg 2 0 [1,2] [] [bx b4 [iv 4,iv 8,iv 16,iv 32,iv 64,iv 128] 147,bx b3 (A5 ({Act.zero with kind:=39,n:=(d.n % 7)})) 26,bx b2 (A5 ({Act.zero with kind:=39,n:=(d.n % 7)})) 26,bx b1 (L4 d) 41] ?_)))
  subst hR
  refine ie (A9 ?_)
  exact zer hr hD (M9 rfl (F0 (us:=A5 ({Act.zero with kind:=39,n:=(d.n % 7)})) A3v rfl 2 rfl rfl rfl)) () (mk [false,false,false,false] rfl) fn0
 refine A6 (nx (sr 2 rfl (zrg 2 0 [1,2] [] [bx b4 [iv 4,iv 8,iv 16,iv 32,iv 64,iv 128] 147,bx b3 (A5 ({Act.zero with kind:=39,n:=(d.n % 7)})) 26,bx b2 (A5 ({Act.zero with kind:=39,n:=(d.n % 7)})) 26,bx b1 (L4 d) 41] ?_)))
 subst hR
 refine ie (A9 ?_)
 exact zer hr hD (M9 rfl (F0 (us:=A5 ({Act.zero with kind:=39,n:=(d.n % 7)})) A3v rfl 2 rfl rfl rfl)) () (mk [false,false,false,false] rfl) fn0
def L9 (d:Drf) (i:Nat) (k:Nat) (ag_ref10_Draft_Action_l11:Nat→Act):Nat→Nat→Act
 | 0,_=>Act.zero
 | fu5+1,by_=>(bif (decide ((by_:Int)<5)) then (bif (D5 ({Act.zero with kind:=(IntKind.i64.wrap ((1:Int)+(d.kind % 46))),n:=(IntKind.i64.wrap ((Int.tmod d.n (([65536,10000,7,4,2]:List Int).getD i 0))+(by_:Int))),m:=(Int.tmod d.m (([65536,10000,7,4,2]:List Int).getD k 0))})) then {Act.zero with kind:=(IntKind.i64.wrap ((1:Int)+(d.kind % 46))),n:=(IntKind.i64.wrap ((Int.tmod d.n (([65536,10000,7,4,2]:List Int).getD i 0))+(by_:Int))),m:=(Int.tmod d.m (([65536,10000,7,4,2]:List Int).getD k 0))} else (bif (D5 ({Act.zero with kind:=(IntKind.i64.wrap ((1:Int)+(d.kind % 46))),n:=(IntKind.i64.wrap ((Int.tmod d.n (([65536,10000,7,4,2]:List Int).getD i 0))+(by_:Int))),m:=(IntKind.i64.wrap ((Int.tmod d.m (([65536,10000,7,4,2]:List Int).getD k 0))+(1:Int)))})) then {Act.zero with kind:=(IntKind.i64.wrap ((1:Int)+(d.kind % 46))),n:=(IntKind.i64.wrap ((Int.tmod d.n (([65536,10000,7,4,2]:List Int).getD i 0))+(by_:Int))),m:=(IntKind.i64.wrap ((Int.tmod d.m (([65536,10000,7,4,2]:List Int).getD k 0))+(1:Int)))} else (bif (D5 ({Act.zero with kind:=(IntKind.i64.wrap ((1:Int)+(d.kind % 46))),n:=(IntKind.i64.wrap ((Int.tmod d.n (([65536,10000,7,4,2]:List Int).getD i 0))+(by_:Int))),m:=0})) then {Act.zero with kind:=(IntKind.i64.wrap ((1:Int)+(d.kind % 46))),n:=(IntKind.i64.wrap ((Int.tmod d.n (([65536,10000,7,4,2]:List Int).getD i 0))+(by_:Int))),m:=0} else L9 d i k ag_ref10_Draft_Action_l11 fu5 (by_+1)))) else ag_ref10_Draft_Action_l11 (k+1))
def K0 (d:Drf) (i:Nat) (ag_ref10_Draft_Action_l8:Nat→Act):Nat→Nat→Act
 | 0,_=>Act.zero
 | fu3+1,k=>(bif (decide ((k:Int)<5)) then L9 d i k (K0 d i ag_ref10_Draft_Action_l8 fu3) ((5 - 0)+1) 0 else ag_ref10_Draft_Action_l8 (i+1))
def J4 (d:Drf):Nat→Nat→Act
 | 0,_=>Act.zero
 | fu1+1,i=>(bif (decide ((i:Int)<5)) then K0 d i (J4 d fu1) ((5 - 0)+1) 0 else {Act.zero with kind:=2})
def I4 (d:Drf):Act :=
 (bif ((decide ((IntKind.i64.wrap ((1:Int)+(d.kind % 46)))=44))||(decide ((IntKind.i64.wrap ((1:Int)+(d.kind % 46)))=46))) then (bif (!(D5 ({Act.zero with kind:=(IntKind.i64.wrap ((1:Int)+(d.kind % 46))),text:=(d.text.take ((if (300:Int)<(d.text.length:Int) then (300:Int) else (d.text.length:Int)).toNat))}))) then {Act.zero with kind:=(IntKind.i64.wrap ((1:Int)+(d.kind % 46))),text:=([116]:List UInt8)} else {Act.zero with kind:=(IntKind.i64.wrap ((1:Int)+(d.kind % 46))),text:=(d.text.take ((if (300:Int)<(d.text.length:Int) then (300:Int) else (d.text.length:Int)).toNat))}) else (bif (decide ((IntKind.i64.wrap ((1:Int)+(d.kind % 46)))=45)) then {Act.zero with kind:=(IntKind.i64.wrap ((1:Int)+(d.kind % 46))),n:=(d.n % 256),color:=(⟨2,(d.rgb % 16777216)⟩:Col)} else (bif (decide ((IntKind.i64.wrap ((1:Int)+(d.kind % 46)))=39)) then (A3m d) else J4 d ((5 - 0)+1) 0)))
theorem C2t (d:Drf):(A3m d).text=[]:=by
 unfold A3m A0r
 simp only [Bool.cond_eq_ite]
 repeat' split
 all_goals rfl
theorem A2j (d:Drf) (i k:Nat) (ag:Nat→Act) (hag:∀ x,(ag x).text=[]):∀ (fu b:Nat),(L9 d i k ag fu b).text=[]
 | 0,_=>rfl
 | fu+1,b=>by
  have ih:=A2j d i k ag hag fu (b+1)
  rw [L9]
  simp only [Bool.cond_eq_ite]
  repeat' split
  all_goals first|rfl|exact ih|exact hag _
theorem A2g (d:Drf) (i:Nat) (ag:Nat→Act) (hag:∀ x,(ag x).text=[]):∀ (fu k:Nat),(K0 d i ag fu k).text=[]
 | 0,_=>rfl
 | fu+1,k=>by
  rw [K0]
  simp only [Bool.cond_eq_ite]
  split
  ·exact A2j d i k _ (fun x=>A2g d i ag hag fu x) _ _
  ·exact hag _
theorem A2w (d:Drf):∀ (fu i:Nat),(J4 d fu i).text=[]
 | 0,_=>rfl
 | fu+1,i=>by
  rw [J4]
  simp only [Bool.cond_eq_ite]
  split
  ·exact A2g d i _ (fun x=>A2w d fu x) _ _
  ·rfl
theorem A4l (d:Drf):(I4 d).text.length≤300:=by
 have h8:=A2w d ((5 - 0)+1) 0
 have hp:=C2t d
 unfold I4
 simp only [Bool.cond_eq_ite]
 repeat' split
 all_goals first|(rw [h8];exact Nat.zero_le _)|(rw [hp];exact Nat.zero_le _)|exact Nat.zero_le _|(show ([116]:List UInt8).length≤300;decide)|(show (List.take _ _).length≤300;rw [List.length_take];split<;>omega)|(show (List.take _ _).length≤300;rw [List.length_take];omega)
theorem B2q (d:Drf) (hd:B0u d) (R:Act) (hR:I4 d=R):I6 Tryz.prog 19 [ag (L4 d)] [] (ag (A5 R)):=by
 refine zco Tryz.func19 [(0,ag (L4 d))] fun X hX hr hD=>?_
 replace hR:=(I4.eq_1 ..).symm.trans hR
 have hdi:=hd;unfold B0u at hdi
 refine sr 2 rfl (C6i 2 0 [] (fun b1 b2=>[(1,pt b1 0),(2,pt b2 0)]) (fun b1 b2=>[bx b2 (A5 Act.zero) 26,bx b1 (L4 d) 41]) (fun b1 b2=>?_))
 refine ie (sr 8 rfl (zrl 2 6 [1] [(10,.int .u16 d.kind)] ?_))
 refine ix rfl (V6 (c:=(d.kind % 46)) rfl rfl rfl (by decide) (by omega)) ?_
 refine ix rfl (N3 (c:=(d.kind % 46)) Tryz.underlying3 (by kernel_rfl) rfl rfl (O4 (by first|(simp [IntKind.min,IntKind.signed,IntKind.bits];omega)|(simp [IntKind.max,IntKind.signed,IntKind.bits];omega)) (by first|(simp [IntKind.min,IntKind.signed,IntKind.bits];omega)|(simp [IntKind.max,IntKind.signed,IntKind.bits];omega)))) ?_
 refine ix rfl (G8.pure rfl) ?_
 refine P0 3 0 [0] (fun b3=>[(3,pt b3 0)]) (fun b3=>[bx b3 (A5 ({Act.zero with kind:=(IntKind.i64.wrap ((1:Int)+(d.kind % 46)))})) 26,bx b2 (A5 Act.zero) 26,bx b1 (L4 d) 41]) (fun b3=>?_)
 refine ie (A8 (sr 8 rfl (zrl 4 4 [0] [(18,bv (decide ((IntKind.i64.wrap ((1:Int)+(d.kind % 46)))=44)))] ?_)))
 refine zir 4 0 18 22 (decide ((IntKind.i64.wrap ((1:Int)+(d.kind % 46)))=46)) (fun g4 g4p=>?_) ?_
 ·refine zrl 4 0 [0] [(22,bv (decide ((IntKind.i64.wrap ((1:Int)+(d.kind % 46)))=46)))] ?_
  exact A3 (L3 2 18 22 g4 fn0 (mk [true,true,true] rfl) rfl rfl rfl rfl rfl)
 refine ie ?_
 refine zjo rfl hR ?_ ?_<;>clear hR<;>intro hR h5 h5p
 ·refine sr 9 rfl (zrl 6 3 [2,2] [(24,sv d.text),(28,iv (if (300:Int)<(d.text.length:Int) then (300:Int) else (d.text.length:Int)))] ?_)
  have:=D1j (d.text.length:Int) (300:Int)
  refine ix rfl (A6m (T:=9) Tryz.underlying9 rfl rfl rfl ((if (300:Int)<(d.text.length:Int) then (300:Int) else (d.text.length:Int)).toNat) (by omega) (by omega)) ?_
  refine zrg 2 0 [0] [] [bx b3 (A5 ({Act.zero with kind:=(IntKind.i64.wrap ((1:Int)+(d.kind % 46))),text:=(d.text.take ((if (300:Int)<(d.text.length:Int) then (300:Int) else (d.text.length:Int)).toNat))})) 26,bx b2 (A5 Act.zero) 26,bx b1 (L4 d) 41] ?_
  refine ie (A8 (sr 3 rfl (zrl 1 2 [0] [(31,ag (A5 ({Act.zero with kind:=(IntKind.i64.wrap ((1:Int)+(d.kind % 46))),text:=(d.text.take ((if (300:Int)<(d.text.length:Int) then (300:Int) else (d.text.length:Int)).toNat))})))] ?_)))
  refine zca (A6f ({Act.zero with kind:=(IntKind.i64.wrap ((1:Int)+(d.kind % 46))),text:=(d.text.take ((if (300:Int)<(d.text.length:Int) then (300:Int) else (d.text.length:Int)).toNat))}) _ rfl) fn0 ?_
  refine ip' 1 0 [(33,bv (!(D5 ({Act.zero with kind:=(IntKind.i64.wrap ((1:Int)+(d.kind % 46))),text:=(d.text.take ((if (300:Int)<(d.text.length:Int) then (300:Int) else (d.text.length:Int)).toNat))}))))] ?_
  refine ie ?_
  refine zjb rfl hR ?_ ?_<;>clear hR<;>intro hR h6
  ·refine A2 2 rfl (zrg 2 0 [0] [] [bx b3 (A5 ({Act.zero with kind:=(IntKind.i64.wrap ((1:Int)+(d.kind % 46))),text:=([116]:List UInt8)})) 26,bx b2 (A5 Act.zero) 26,bx b1 (L4 d) 41] ?_)
   refine A3 (nx (sr 2 rfl (zrg 2 0 [0,1] [] [bx b3 (A5 ({Act.zero with kind:=(IntKind.i64.wrap ((1:Int)+(d.kind % 46))),text:=([116]:List UInt8)})) 26,bx b2 (A5 ({Act.zero with kind:=(IntKind.i64.wrap ((1:Int)+(d.kind % 46))),text:=([116]:List UInt8)})) 26,bx b1 (L4 d) 41] ?_)))
   subst hR
   refine ie (A9 ?_)
   exact zer hr hD (M9 rfl (F0 (us:=A5 ({Act.zero with kind:=(IntKind.i64.wrap ((1:Int)+(d.kind % 46))),text:=([116]:List UInt8)})) A3v rfl 1 rfl rfl rfl)) () (mk [false,false,false] rfl) fn0
  refine A6 (nx (sr 2 rfl (zrg 2 0 [0,1] [] [bx b3 (A5 ({Act.zero with kind:=(IntKind.i64.wrap ((1:Int)+(d.kind % 46))),text:=(d.text.take ((if (300:Int)<(d.text.length:Int) then (300:Int) else (d.text.length:Int)).toNat))})) 26,bx b2 (A5 ({Act.zero with kind:=(IntKind.i64.wrap ((1:Int)+(d.kind % 46))),text:=(d.text.take ((if (300:Int)<(d.text.length:Int) then (300:Int) else (d.text.length:Int)).toNat))})) 26,bx b1 (L4 d) 41] ?_)))
  subst hR
  refine ie (A9 ?_)
  exact zer hr hD (M9 rfl (F0 (us:=A5 ({Act.zero with kind:=(IntKind.i64.wrap ((1:Int)+(d.kind % 46))),text:=(d.text.take ((if (300:Int)<(d.text.length:Int) then (300:Int) else (d.text.length:Int)).toNat))})) A3v rfl 1 rfl rfl rfl)) () (mk [false,false,false] rfl) fn0
 refine A6 (nx (A8 (sr 3 rfl (zrl 3 0 [0] [(38,bv (decide ((IntKind.i64.wrap ((1:Int)+(d.kind % 46)))=45)))] ?_))))
 refine ie ?_
 refine zjd rfl hR ?_ ?_<;>clear hR<;>intro hR h7 h7p
 ·refine sh 13 [(10,[bx b3 (A5 ({Act.zero with kind:=(IntKind.i64.wrap ((1:Int)+(d.kind % 46)))})) 26]),(13,[bx b2 (A5 Act.zero) 26]),(13,[bx b1 (L4 d) 41])] [] [bx b3 (A5 ({Act.zero with kind:=(IntKind.i64.wrap ((1:Int)+(d.kind % 46)))})) 26,bx b2 (A5 Act.zero) 26,bx b1 (L4 d) 41] (zml 13 0) (by kernel_rfl) rfl (by kernel_rfl) (by kernel_rfl) (by kernel_rfl) (mk [true,true,true] rfl) A1.refl ?_
  refine zhp [0,4] 11 (zml 13 17) [(39,pt b1 1),(43,pt b1 3)] ?_
  refine zhl 1 [bx b3 (A5 ({Act.zero with kind:=(IntKind.i64.wrap ((1:Int)+(d.kind % 46)))})) 26,bx b2 (A5 Act.zero) 26,bx b1 (L4 d) 41] (zml 13 19) rfl (B4 (v:=.int .u16 d.n) D6q rfl rfl 2 rfl rfl) ?_
  refine zhk 2 (zml 13 23) rfl (V6 (c:=(d.n % 256)) rfl rfl rfl (by decide) (by omega)) ?_
  refine zhk 3 (zml 13 31) rfl (N3 (c:=(d.n % 256)) Tryz.underlying3 (by kernel_rfl) rfl rfl (O4 (by first|(simp [IntKind.min,IntKind.signed,IntKind.bits];omega)|(simp [IntKind.max,IntKind.signed,IntKind.bits];omega)) (by first|(simp [IntKind.min,IntKind.signed,IntKind.bits];omega)|(simp [IntKind.max,IntKind.signed,IntKind.bits];omega)))) ?_
  refine zhp [9] 7 (zml 13 543) [(48,pt b3 1)] ?_
  refine zhl 5 [bx b2 (A5 Act.zero) 26,bx b1 (L4 d) 41] (zml 13 575) rfl (B4 (v:=.int .u32 d.rgb) E5w rfl rfl 1 rfl rfl) ?_
  refine zhk 6 (zml 13 639) rfl (V6 (c:=(d.rgb % 16777216)) rfl rfl rfl (by decide) (by omega)) ?_
  refine zhk 7 (zml 13 767) rfl (N3 (c:=(d.rgb % 16777216)) Tryz.underlying3 (by kernel_rfl) rfl rfl (O4 (by first|(simp [IntKind.min,IntKind.signed,IntKind.bits];omega)|(simp [IntKind.max,IntKind.signed,IntKind.bits];omega)) (by first|(simp [IntKind.min,IntKind.signed,IntKind.bits];omega)|(simp [IntKind.max,IntKind.signed,IntKind.bits];omega)))) ?_
  refine zhk 8 (zml 13 1023) rfl (C5b (cs:=M5 (⟨2,(d.rgb % 16777216)⟩:Col)) rfl rfl (by kernel_rfl)) ?_
  refine zho 10 [bx b2 (A5 Act.zero) 26,bx b1 (L4 d) 41] (zml 13 2047) rfl (O2 (us:=[iv (d.n % 256)]) (cs':=A5 ({Act.zero with kind:=(IntKind.i64.wrap ((1:Int)+(d.kind % 46))),n:=(d.n % 256)})) ty3 rfl rfl rfl 0 rfl rfl rfl rfl rfl rfl) (fun _=>(mk [false,true,true] rfl)) (fun _=>fn0) fun _=>?_
  refine zhp [11] 1 (zml 13 4095) [(49,pt b3 3)] ?_
  refine zho 12 [bx b2 (A5 Act.zero) 26,bx b1 (L4 d) 41] (zml 13 8191) rfl (O2 (us:=M5 (⟨2,(d.rgb % 16777216)⟩:Col)) (cs':=A5 ({Act.zero with kind:=(IntKind.i64.wrap ((1:Int)+(d.kind % 46))),n:=(d.n % 256),color:=(⟨2,(d.rgb % 16777216)⟩:Col)})) B4s rfl rfl rfl 0 rfl rfl rfl rfl rfl rfl) (fun _=>(mk [false,true,true] rfl)) (fun _=>fn0) fun _=>?_
  refine A6k (by kernel_rfl) ?_
  refine sr 2 rfl (zrg 2 0 [0,1] [] [bx b3 (A5 ({Act.zero with kind:=(IntKind.i64.wrap ((1:Int)+(d.kind % 46))),n:=(d.n % 256),color:=(⟨2,(d.rgb % 16777216)⟩:Col)})) 26,bx b2 (A5 ({Act.zero with kind:=(IntKind.i64.wrap ((1:Int)+(d.kind % 46))),n:=(d.n % 256),color:=(⟨2,(d.rgb % 16777216)⟩:Col)})) 26,bx b1 (L4 d) 41] ?_)
  subst hR
  refine ie (A9 ?_)
  exact zer hr hD (M9 rfl (F0 (us:=A5 ({Act.zero with kind:=(IntKind.i64.wrap ((1:Int)+(d.kind % 46))),n:=(d.n % 256),color:=(⟨2,(d.rgb % 16777216)⟩:Col)})) A3v rfl 1 rfl rfl rfl)) () (mk [false,false,false] rfl) fn0
 refine A6 (nx (A8 (sr 3 rfl (zrl 3 0 [0] [(53,bv (decide ((IntKind.i64.wrap ((1:Int)+(d.kind % 46)))=39)))] ?_))))
 refine ie ?_
 refine zjd rfl hR ?_ ?_<;>clear hR<;>intro hR h8 h8p
 ·refine sr 3 rfl (zrl 1 2 [2] [(54,ag (L4 d))] ?_)
  refine zca (D0c d (by first|assumption|(exact hdl _ (List.getElem_mem (by omega)))|(rw [gdE (by omega)];exact hdl _ (List.getElem_mem (by omega)))) _ rfl) fn0 ?_
  refine zrg 1 0 [1] [] [bx b3 (A5 ({Act.zero with kind:=(IntKind.i64.wrap ((1:Int)+(d.kind % 46)))})) 26,bx b2 (A5 (A3m d)) 26,bx b1 (L4 d) 41] ?_
  subst hR
  refine ie (A9 ?_)
  exact zer hr hD (M9 rfl (F0 (us:=A5 (A3m d)) A3v rfl 1 rfl rfl rfl)) () (mk [false,false,false] rfl) fn0
 refine A6 (nx (sr 3 rfl (P0 3 0 [0] (fun b9=>[(4,pt b9 0)]) (fun b9=>[bx b9 [iv 65536,iv 10000,iv 7,iv 4,iv 2] 85,bx b3 (A5 ({Act.zero with kind:=(IntKind.i64.wrap ((1:Int)+(d.kind % 46)))})) 26,bx b2 (A5 Act.zero) 26,bx b1 (L4 d) 41]) (fun b9=>?_))))
 refine ie (A8 (sr 1 rfl (ip' 1 0 [(5,iv 0)] ?_)))
 refine ie (B3 (D2c (fun (fu:Nat) (i:Nat)=>((5 - i)<fu∧J4 d fu i=R,[(1,pt b1 0),(2,pt b2 0),(3,pt b3 0),(4,pt b9 0),(5,iv (i:Int))],[bx b9 [iv 65536,iv 10000,iv 7,iv 4,iv 2] 85,bx b3 (A5 ({Act.zero with kind:=(IntKind.i64.wrap ((1:Int)+(d.kind % 46)))})) 26,bx b2 (A5 Act.zero) 26,bx b1 (L4 d) 41],[],fu)) ((5 - 0)+1) 0 ⟨(Nat.lt_succ_self _),hR⟩ (mk [true,true,true,true] rfl) fn0 ?_))
 rintro fu i ⟨hm10,hR⟩
 obtain ⟨fu1,rfl⟩:∃ m,fu=m+1:=⟨fu - 1,by omega⟩
 replace hR:=(J4.eq_2 ..).symm.trans hR
 refine A8 (sr 2 rfl (ip' 2 0 [(58,bv (decide ((i:Int)<5)))] ?_))
 refine ie ?_
 refine zjd rfl hR ?_ ?_<;>clear hR<;>intro hR h11 h11p
 ·refine A6 (nx (A8 (B3 (sr 1 rfl (ip' 1 0 [(6,iv 0)] ?_)))))
  refine ie (B3 (D2c (fun (fu2:Nat) (k:Nat)=>((5 - k)<fu2∧K0 d i (J4 d fu1) fu2 k=R,[(1,pt b1 0),(2,pt b2 0),(3,pt b3 0),(4,pt b9 0),(5,iv (i:Int)),(6,iv (k:Int))],[bx b9 [iv 65536,iv 10000,iv 7,iv 4,iv 2] 85,bx b3 (A5 ({Act.zero with kind:=(IntKind.i64.wrap ((1:Int)+(d.kind % 46)))})) 26,bx b2 (A5 Act.zero) 26,bx b1 (L4 d) 41],[],fu2)) ((5 - 0)+1) 0 ⟨(Nat.lt_succ_self _),hR⟩ (mk [true,true,true,true] rfl) fn0 ?_))
  rintro fu2 k ⟨hm12,hR⟩
  obtain ⟨fu3,rfl⟩:∃ m,fu2=m+1:=⟨fu2 - 1,by omega⟩
  replace hR:=(K0.eq_2 ..).symm.trans hR
  refine A8 (sr 2 rfl (ip' 2 0 [(62,bv (decide ((k:Int)<5)))] ?_))
  refine ie ?_
  refine zjd rfl hR ?_ ?_<;>clear hR<;>intro hR h13 h13p
  ·refine A6 (nx (A8 (B3 (sr 1 rfl (ip' 1 0 [(7,iv 0)] ?_)))))
   refine ie (B3 (D2c (fun (fu4:Nat) (by_:Nat)=>((5 - by_)<fu4∧L9 d i k (K0 d i (J4 d fu1) fu3) fu4 by_=R,[(1,pt b1 0),(2,pt b2 0),(3,pt b3 0),(4,pt b9 0),(5,iv (i:Int)),(6,iv (k:Int)),(7,iv (by_:Int))],[bx b9 [iv 65536,iv 10000,iv 7,iv 4,iv 2] 85,bx b3 (A5 ({Act.zero with kind:=(IntKind.i64.wrap ((1:Int)+(d.kind % 46)))})) 26,bx b2 (A5 Act.zero) 26,bx b1 (L4 d) 41],[],fu4)) ((5 - 0)+1) 0 ⟨(Nat.lt_succ_self _),hR⟩ (mk [true,true,true,true] rfl) fn0 ?_))
   rintro fu4 by_ ⟨hm14,hR⟩
   obtain ⟨fu5,rfl⟩:∃ m,fu4=m+1:=⟨fu4 - 1,by omega⟩
   replace hR:=(L9.eq_2 ..).symm.trans hR
   refine A8 (sr 2 rfl (ip' 2 0 [(66,bv (decide ((by_:Int)<5)))] ?_))
   refine ie ?_
   refine zjd rfl hR ?_ ?_<;>clear hR<;>intro hR h15 h15p
   ·refine A6 (nx (A8 (B3 (sr 3 rfl (P0 3 0 [1,0] (fun b16=>[(8,pt b16 0)]) (fun b16=>[bx b16 (A5 ({Act.zero with kind:=(IntKind.i64.wrap ((1:Int)+(d.kind % 46)))})) 26,bx b9 [iv 65536,iv 10000,iv 7,iv 4,iv 2] 85,bx b3 (A5 ({Act.zero with kind:=(IntKind.i64.wrap ((1:Int)+(d.kind % 46)))})) 26,bx b2 (A5 Act.zero) 26,bx b1 (L4 d) 41]) (fun b16=>?_))))))
    refine ie (sh 20 [(17,[bx b16 (A5 ({Act.zero with kind:=(IntKind.i64.wrap ((1:Int)+(d.kind % 46)))})) 26]),(20,[bx b9 [iv 65536,iv 10000,iv 7,iv 4,iv 2] 85]),(20,[bx b3 (A5 ({Act.zero with kind:=(IntKind.i64.wrap ((1:Int)+(d.kind % 46)))})) 26]),(20,[bx b2 (A5 Act.zero) 26]),(20,[bx b1 (L4 d) 41])] [] [bx b16 (A5 ({Act.zero with kind:=(IntKind.i64.wrap ((1:Int)+(d.kind % 46)))})) 26,bx b9 [iv 65536,iv 10000,iv 7,iv 4,iv 2] 85,bx b3 (A5 ({Act.zero with kind:=(IntKind.i64.wrap ((1:Int)+(d.kind % 46)))})) 26,bx b2 (A5 Act.zero) 26,bx b1 (L4 d) 41] (zml 20 0) (by kernel_rfl) rfl (by kernel_rfl) (by kernel_rfl) (by kernel_rfl) (mk [true,true,true,true,true] rfl) A1.refl ?_)
    refine zhp [0,3,7,9,12] 15 (zml 20 4745) [(70,pt b1 1),(73,iv (i:Int)),(77,iv (by_:Int)),(79,pt b1 2),(82,iv (k:Int))] ?_
    refine zhl 1 [bx b16 (A5 ({Act.zero with kind:=(IntKind.i64.wrap ((1:Int)+(d.kind % 46)))})) 26,bx b9 [iv 65536,iv 10000,iv 7,iv 4,iv 2] 85,bx b3 (A5 ({Act.zero with kind:=(IntKind.i64.wrap ((1:Int)+(d.kind % 46)))})) 26,bx b2 (A5 Act.zero) 26,bx b1 (L4 d) 41] (zml 20 4747) rfl (B4 (v:=.int .u16 d.n) D6q rfl rfl 4 rfl rfl) ?_
    refine zhk 2 (zml 20 4751) rfl (N3 (c:=d.n) Tryz.underlying3 (by kernel_rfl) rfl rfl (O4 (by first|(simp [IntKind.min,IntKind.signed,IntKind.bits];omega)|(simp [IntKind.max,IntKind.signed,IntKind.bits];omega)) (by first|(simp [IntKind.min,IntKind.signed,IntKind.bits];omega)|(simp [IntKind.max,IntKind.signed,IntKind.bits];omega)))) ?_
    refine zhl 4 [bx b16 (A5 ({Act.zero with kind:=(IntKind.i64.wrap ((1:Int)+(d.kind % 46)))})) 26,bx b9 [iv 65536,iv 10000,iv 7,iv 4,iv 2] 85,bx b3 (A5 ({Act.zero with kind:=(IntKind.i64.wrap ((1:Int)+(d.kind % 46)))})) 26,bx b2 (A5 Act.zero) 26,bx b1 (L4 d) 41] (zml 20 4767) rfl (U9 Tryz.underlying85 ty3 rfl rfl rfl i rfl (by omega)) ?_
    refine zhl 5 [bx b16 (A5 ({Act.zero with kind:=(IntKind.i64.wrap ((1:Int)+(d.kind % 46)))})) 26,bx b9 [iv 65536,iv 10000,iv 7,iv 4,iv 2] 85,bx b3 (A5 ({Act.zero with kind:=(IntKind.i64.wrap ((1:Int)+(d.kind % 46)))})) 26,bx b2 (A5 Act.zero) 26,bx b1 (L4 d) 41] (zml 20 4799) rfl (N2 (u:=iv (([65536,10000,7,4,2]:List Int).getD i 0)) (c:=D9) (xs:=([65536,10000,7,4,2]:List Int)) (j:=[]) (sz:=1) ty3 (fun _=>rfl) rfl rfl 1 rfl i 0 rfl (gd 0 (by simp only [List.length_cons,List.length_nil];omega)) rfl) ?_
    refine zhk 6 (zml 20 4863) rfl (B2c rfl rfl rfl (by first|omega|exact C6u (by decide) (by first|omega|(simp<;>omega))|omega) rfl) ?_
    refine zhk 8 (zml 20 5119) rfl (G8.pure rfl) ?_
    refine zhp [16] 8 (zml 20 70655) [(86,pt b16 1)] ?_
    refine zhl 10 [bx b9 [iv 65536,iv 10000,iv 7,iv 4,iv 2] 85,bx b3 (A5 ({Act.zero with kind:=(IntKind.i64.wrap ((1:Int)+(d.kind % 46)))})) 26,bx b2 (A5 Act.zero) 26,bx b1 (L4 d) 41] (zml 20 71679) rfl (B4 (v:=.int .u16 d.m) D6q rfl rfl 3 rfl rfl) ?_
    refine zhk 11 (zml 20 73727) rfl (N3 (c:=d.m) Tryz.underlying3 (by kernel_rfl) rfl rfl (O4 (by first|(simp [IntKind.min,IntKind.signed,IntKind.bits];omega)|(simp [IntKind.max,IntKind.signed,IntKind.bits];omega)) (by first|(simp [IntKind.min,IntKind.signed,IntKind.bits];omega)|(simp [IntKind.max,IntKind.signed,IntKind.bits];omega)))) ?_
    refine zhl 13 [bx b9 [iv 65536,iv 10000,iv 7,iv 4,iv 2] 85,bx b3 (A5 ({Act.zero with kind:=(IntKind.i64.wrap ((1:Int)+(d.kind % 46)))})) 26,bx b2 (A5 Act.zero) 26,bx b1 (L4 d) 41] (zml 20 81919) rfl (U9 Tryz.underlying85 ty3 rfl rfl rfl k rfl (by omega)) ?_
    refine zhl 14 [bx b9 [iv 65536,iv 10000,iv 7,iv 4,iv 2] 85,bx b3 (A5 ({Act.zero with kind:=(IntKind.i64.wrap ((1:Int)+(d.kind % 46)))})) 26,bx b2 (A5 Act.zero) 26,bx b1 (L4 d) 41] (zml 20 98303) rfl (N2 (u:=iv (([65536,10000,7,4,2]:List Int).getD k 0)) (c:=D9) (xs:=([65536,10000,7,4,2]:List Int)) (j:=[]) (sz:=1) ty3 (fun _=>rfl) rfl rfl 0 rfl k 0 rfl (gd 0 (by simp only [List.length_cons,List.length_nil];omega)) rfl) ?_
    refine zhk 15 (zml 20 131071) rfl (B2c rfl rfl rfl (by first|omega|exact C6u (by decide) (by first|omega|(simp<;>omega))|omega) rfl) ?_
    refine zho 17 [bx b9 [iv 65536,iv 10000,iv 7,iv 4,iv 2] 85,bx b3 (A5 ({Act.zero with kind:=(IntKind.i64.wrap ((1:Int)+(d.kind % 46)))})) 26,bx b2 (A5 Act.zero) 26,bx b1 (L4 d) 41] (zml 20 262143) rfl (O2 (us:=[iv (IntKind.i64.wrap ((Int.tmod d.n (([65536,10000,7,4,2]:List Int).getD i 0))+(by_:Int)))]) (cs':=A5 ({Act.zero with kind:=(IntKind.i64.wrap ((1:Int)+(d.kind % 46))),n:=(IntKind.i64.wrap ((Int.tmod d.n (([65536,10000,7,4,2]:List Int).getD i 0))+(by_:Int)))})) ty3 rfl rfl rfl 0 rfl rfl rfl rfl rfl rfl) (fun _=>(mk [false,true,true,true,true] rfl)) (fun _=>fn0) fun _=>?_
    refine zhp [18] 1 (zml 20 524287) [(87,pt b16 2)] ?_
    refine zho 19 [bx b9 [iv 65536,iv 10000,iv 7,iv 4,iv 2] 85,bx b3 (A5 ({Act.zero with kind:=(IntKind.i64.wrap ((1:Int)+(d.kind % 46)))})) 26,bx b2 (A5 Act.zero) 26,bx b1 (L4 d) 41] (zml 20 1048575) rfl (O2 (us:=[iv (Int.tmod d.m (([65536,10000,7,4,2]:List Int).getD k 0))]) (cs':=A5 ({Act.zero with kind:=(IntKind.i64.wrap ((1:Int)+(d.kind % 46))),n:=(IntKind.i64.wrap ((Int.tmod d.n (([65536,10000,7,4,2]:List Int).getD i 0))+(by_:Int))),m:=(Int.tmod d.m (([65536,10000,7,4,2]:List Int).getD k 0))})) ty3 rfl rfl rfl 0 rfl rfl rfl rfl rfl rfl) (fun _=>(mk [false,true,true,true,true] rfl)) (fun _=>fn0) fun _=>?_
    refine A6k (by kernel_rfl) ?_
    refine A8 (sr 2 rfl (zrl 1 1 [0] [(88,ag (A5 ({Act.zero with kind:=(IntKind.i64.wrap ((1:Int)+(d.kind % 46))),n:=(IntKind.i64.wrap ((Int.tmod d.n (([65536,10000,7,4,2]:List Int).getD i 0))+(by_:Int))),m:=(Int.tmod d.m (([65536,10000,7,4,2]:List Int).getD k 0))})))] ?_))
    refine zca (A6f ({Act.zero with kind:=(IntKind.i64.wrap ((1:Int)+(d.kind % 46))),n:=(IntKind.i64.wrap ((Int.tmod d.n (([65536,10000,7,4,2]:List Int).getD i 0))+(by_:Int))),m:=(Int.tmod d.m (([65536,10000,7,4,2]:List Int).getD k 0))}) _ rfl) fn0 ?_
    refine ie ?_
    refine zjb rfl hR ?_ ?_<;>clear hR<;>intro hR h17
    ·refine sr 2 rfl (zrg 2 0 [0,3] [] [bx b16 (A5 ({Act.zero with kind:=(IntKind.i64.wrap ((1:Int)+(d.kind % 46))),n:=(IntKind.i64.wrap ((Int.tmod d.n (([65536,10000,7,4,2]:List Int).getD i 0))+(by_:Int))),m:=(Int.tmod d.m (([65536,10000,7,4,2]:List Int).getD k 0))})) 26,bx b9 [iv 65536,iv 10000,iv 7,iv 4,iv 2] 85,bx b3 (A5 ({Act.zero with kind:=(IntKind.i64.wrap ((1:Int)+(d.kind % 46)))})) 26,bx b2 (A5 ({Act.zero with kind:=(IntKind.i64.wrap ((1:Int)+(d.kind % 46))),n:=(IntKind.i64.wrap ((Int.tmod d.n (([65536,10000,7,4,2]:List Int).getD i 0))+(by_:Int))),m:=(Int.tmod d.m (([65536,10000,7,4,2]:List Int).getD k 0))})) 26,bx b1 (L4 d) 41] ?_)
     subst hR
     refine ie (A9 ?_)
     exact zer hr hD (M9 rfl (F0 (us:=A5 ({Act.zero with kind:=(IntKind.i64.wrap ((1:Int)+(d.kind % 46))),n:=(IntKind.i64.wrap ((Int.tmod d.n (([65536,10000,7,4,2]:List Int).getD i 0))+(by_:Int))),m:=(Int.tmod d.m (([65536,10000,7,4,2]:List Int).getD k 0))})) A3v rfl 3 rfl rfl rfl)) () (mk [false,false,false,false,false] rfl) fn0
    refine A6 (nx (sr 5 rfl (zrl 2 3 [0] [(92,iv (Int.tmod d.m (([65536,10000,7,4,2]:List Int).getD k 0)))] ?_)))
    refine ix rfl (G8.pure rfl) ?_
    refine zrg 2 0 [0] [] [bx b16 (A5 ({Act.zero with kind:=(IntKind.i64.wrap ((1:Int)+(d.kind % 46))),n:=(IntKind.i64.wrap ((Int.tmod d.n (([65536,10000,7,4,2]:List Int).getD i 0))+(by_:Int))),m:=(IntKind.i64.wrap ((Int.tmod d.m (([65536,10000,7,4,2]:List Int).getD k 0))+(1:Int)))})) 26,bx b9 [iv 65536,iv 10000,iv 7,iv 4,iv 2] 85,bx b3 (A5 ({Act.zero with kind:=(IntKind.i64.wrap ((1:Int)+(d.kind % 46)))})) 26,bx b2 (A5 Act.zero) 26,bx b1 (L4 d) 41] ?_
    refine ie (A8 (sr 2 rfl (zrl 1 1 [0] [(95,ag (A5 ({Act.zero with kind:=(IntKind.i64.wrap ((1:Int)+(d.kind % 46))),n:=(IntKind.i64.wrap ((Int.tmod d.n (([65536,10000,7,4,2]:List Int).getD i 0))+(by_:Int))),m:=(IntKind.i64.wrap ((Int.tmod d.m (([65536,10000,7,4,2]:List Int).getD k 0))+(1:Int)))})))] ?_)))
    refine zca (A6f ({Act.zero with kind:=(IntKind.i64.wrap ((1:Int)+(d.kind % 46))),n:=(IntKind.i64.wrap ((Int.tmod d.n (([65536,10000,7,4,2]:List Int).getD i 0))+(by_:Int))),m:=(IntKind.i64.wrap ((Int.tmod d.m (([65536,10000,7,4,2]:List Int).getD k 0))+(1:Int)))}) _ rfl) fn0 ?_
    refine ie ?_
    refine zjb rfl hR ?_ ?_<;>clear hR<;>intro hR h18
    ·refine sr 2 rfl (zrg 2 0 [0,3] [] [bx b16 (A5 ({Act.zero with kind:=(IntKind.i64.wrap ((1:Int)+(d.kind % 46))),n:=(IntKind.i64.wrap ((Int.tmod d.n (([65536,10000,7,4,2]:List Int).getD i 0))+(by_:Int))),m:=(IntKind.i64.wrap ((Int.tmod d.m (([65536,10000,7,4,2]:List Int).getD k 0))+(1:Int)))})) 26,bx b9 [iv 65536,iv 10000,iv 7,iv 4,iv 2] 85,bx b3 (A5 ({Act.zero with kind:=(IntKind.i64.wrap ((1:Int)+(d.kind % 46)))})) 26,bx b2 (A5 ({Act.zero with kind:=(IntKind.i64.wrap ((1:Int)+(d.kind % 46))),n:=(IntKind.i64.wrap ((Int.tmod d.n (([65536,10000,7,4,2]:List Int).getD i 0))+(by_:Int))),m:=(IntKind.i64.wrap ((Int.tmod d.m (([65536,10000,7,4,2]:List Int).getD k 0))+(1:Int)))})) 26,bx b1 (L4 d) 41] ?_)
     subst hR
     refine ie (A9 ?_)
     exact zer hr hD (M9 rfl (F0 (us:=A5 ({Act.zero with kind:=(IntKind.i64.wrap ((1:Int)+(d.kind % 46))),n:=(IntKind.i64.wrap ((Int.tmod d.n (([65536,10000,7,4,2]:List Int).getD i 0))+(by_:Int))),m:=(IntKind.i64.wrap ((Int.tmod d.m (([65536,10000,7,4,2]:List Int).getD k 0))+(1:Int)))})) A3v rfl 3 rfl rfl rfl)) () (mk [false,false,false,false,false] rfl) fn0
    refine A6 (nx (sr 2 rfl (zrg 2 0 [0] [] [bx b16 (A5 ({Act.zero with kind:=(IntKind.i64.wrap ((1:Int)+(d.kind % 46))),n:=(IntKind.i64.wrap ((Int.tmod d.n (([65536,10000,7,4,2]:List Int).getD i 0))+(by_:Int))),m:=0})) 26,bx b9 [iv 65536,iv 10000,iv 7,iv 4,iv 2] 85,bx b3 (A5 ({Act.zero with kind:=(IntKind.i64.wrap ((1:Int)+(d.kind % 46)))})) 26,bx b2 (A5 Act.zero) 26,bx b1 (L4 d) 41] ?_)))
    refine ie (sr 2 rfl (zrl 1 1 [0] [(99,ag (A5 ({Act.zero with kind:=(IntKind.i64.wrap ((1:Int)+(d.kind % 46))),n:=(IntKind.i64.wrap ((Int.tmod d.n (([65536,10000,7,4,2]:List Int).getD i 0))+(by_:Int))),m:=0})))] ?_))
    refine zca (A6f ({Act.zero with kind:=(IntKind.i64.wrap ((1:Int)+(d.kind % 46))),n:=(IntKind.i64.wrap ((Int.tmod d.n (([65536,10000,7,4,2]:List Int).getD i 0))+(by_:Int))),m:=0}) _ rfl) fn0 ?_
    refine ie ?_
    refine zjb rfl hR ?_ ?_<;>clear hR<;>intro hR h19
    ·refine sr 2 rfl (zrg 2 0 [0,3] [] [bx b16 (A5 ({Act.zero with kind:=(IntKind.i64.wrap ((1:Int)+(d.kind % 46))),n:=(IntKind.i64.wrap ((Int.tmod d.n (([65536,10000,7,4,2]:List Int).getD i 0))+(by_:Int))),m:=0})) 26,bx b9 [iv 65536,iv 10000,iv 7,iv 4,iv 2] 85,bx b3 (A5 ({Act.zero with kind:=(IntKind.i64.wrap ((1:Int)+(d.kind % 46)))})) 26,bx b2 (A5 ({Act.zero with kind:=(IntKind.i64.wrap ((1:Int)+(d.kind % 46))),n:=(IntKind.i64.wrap ((Int.tmod d.n (([65536,10000,7,4,2]:List Int).getD i 0))+(by_:Int))),m:=0})) 26,bx b1 (L4 d) 41] ?_)
     subst hR
     refine ie (A9 ?_)
     exact zer hr hD (M9 rfl (F0 (us:=A5 ({Act.zero with kind:=(IntKind.i64.wrap ((1:Int)+(d.kind % 46))),n:=(IntKind.i64.wrap ((Int.tmod d.n (([65536,10000,7,4,2]:List Int).getD i 0))+(by_:Int))),m:=0})) A3v rfl 3 rfl rfl rfl)) () (mk [false,false,false,false,false] rfl) fn0
    refine A6 (nx (A2 3 rfl (ip' 1 2 [(67,iv (by_:Int))] ?_)))
    refine ix rfl (B5 rfl rfl rfl rfl (by omega)) ?_
    refine ip' 1 0 [(7,iv ((by_:Int)+1))] ?_
    refine A3 ?_
    exact D2j (z1:=(fu5+1)) (z2:=by_) fu5 (by_+1) ⟨(by omega),hR⟩ (Nat.lt_succ_self _) (mk [false,true,true,true,true] rfl) fn0
   refine I1 (nx (A2 3 rfl (ip' 1 2 [(63,iv (k:Int))] ?_)))
   refine ix rfl (B5 rfl rfl rfl rfl (by omega)) ?_
   refine ip' 1 0 [(6,iv ((k:Int)+1))] ?_
   refine A3 ?_
   exact D2j (z1:=(fu3+1)) (z2:=k) fu3 (k+1) ⟨(by omega),hR⟩ (Nat.lt_succ_self _) (mk [true,true,true,true] rfl) fn0
  refine I1 (nx (A2 3 rfl (ip' 1 2 [(59,iv (i:Int))] ?_)))
  refine ix rfl (B5 rfl rfl rfl rfl (by omega)) ?_
  refine ip' 1 0 [(5,iv ((i:Int)+1))] ?_
  refine A3 ?_
  exact D2j (z1:=(fu1+1)) (z2:=i) fu1 (i+1) ⟨(by omega),hR⟩ (Nat.lt_succ_self _) (mk [true,true,true,true] rfl) fn0
 refine I1 (nx (sr 2 rfl (zrg 2 0 [2] [] [bx b9 [iv 65536,iv 10000,iv 7,iv 4,iv 2] 85,bx b3 (A5 ({Act.zero with kind:=(IntKind.i64.wrap ((1:Int)+(d.kind % 46)))})) 26,bx b2 (A5 ({Act.zero with kind:=2})) 26,bx b1 (L4 d) 41] ?_)))
 subst hR
 refine ie (A9 ?_)
 exact zer hr hD (M9 rfl (F0 (us:=A5 ({Act.zero with kind:=2})) A3v rfl 2 rfl rfl rfl)) () (mk [false,false,false,false] rfl) fn0
def W4 (l:List Drf):Nat→List Act→Nat→List Act
 | 0,_,_=>[]
 | fu1+1,out,i=>(bif ((decide ((i:Int)<(l.length:Int)))&&(decide ((i:Int)<40))) then W4 l fu1 (out++([(I4 (l.getD i Drf.zero))]:List Act)) (i+1) else out)
def A5x (l:List Drf):List Act :=
 W4 l ((40 - 0)+1) ([]:List Act) 0
theorem B0e (l:List Drf):∀ (fu:Nat) (out:List Act) (i:Nat),(∀ a ∈ out,a.text.length≤300)→∀ a ∈ W4 l fu out i,a.text.length≤300
 | 0,_,_,_=>fun a ha=>by cases ha
 | fu+1,out,i,h=>by
  rw [W4]
  simp only [Bool.cond_eq_ite]
  split
  ·refine B0e l fu _ _ ?_
   intro a ha
   rcases List.mem_append.1 ha with ha | ha
   ·exact h a ha
   ·rw [List.mem_singleton.1 ha];exact A4l _
  ·exact h
theorem C2m (l:List Drf):∀ a ∈ A5x l,a.text.length≤300:=B0e l _ _ _ (fun a ha=>by cases ha)
theorem B1a (l:List Drf):∀ (fu:Nat) (out:List Act) (i:Nat),out.length=i→i≤40→(W4 l fu out i).length≤40
 | 0,_,_,_,_=>Nat.zero_le _
 | fu+1,out,i,h,h4=>by
  rw [W4]
  simp only [Bool.cond_eq_ite,Bool.and_eq_true,decide_eq_true_eq]
  split
  ·exact B1a l fu _ _ (by simp [h]) (by omega)
  ·omega
theorem B4x (l:List Drf):(A5x l).length≤40:=B1a l _ _ _ rfl (by omega)
theorem D0o (l:List Drf) (lq:Option Addr) (lk:Nat) (hll:l.length≤9223372036854775807) (hcl:l.length≤lk) (hdl:∀ d ∈ l,B0u d) (R:List Act) (hR:A5x l=R):Con Tryz.prog 14 [.slice lq l.length lk] [] [sl L4 lq l] ({r:VR // VOk 6 R.length r}) (fun x=>.slice (va x.1.q) R.length x.1.k) (fun x=>((vo A5 26 x.1 R)++([]))) (fun x=>[]):=by
 refine zco Tryz.func14 [(0,.slice lq l.length lk)] fun X hX hr hD=>?_
 replace hR:=(A5x.eq_1 ..).symm.trans hR
 refine sr 1 rfl (ip' 1 0 [] ?_)
 refine ie (sr 1 rfl (ip' 1 0 [(3,.slice none 0 0)] ?_))
 refine ie (A8 (sr 1 rfl (ip' 1 0 [(4,iv 0)] ?_)))
 refine ie (B3 ?_)
 refine C0r (fun (fu:Nat) (out:List Act) (outr:VR) (i:Nat)=>((40 - i)<fu∧W4 l fu out i=R∧VOk 6 out.length outr∧out.length=i,[(0,.slice lq l.length lk),(3,.slice (va outr.q) out.length outr.k),(4,iv (i:Int))],((vo A5 26 outr out)++([])),[sl L4 lq l],fu)) ((40 - 0)+1) ([]:List Act) VR.nil 0 ⟨(Nat.lt_succ_self _),hR,VOk.nil,(by rfl)⟩ (mc [vo A5 26 VR.nil ([]:List Act)] [true] rfl (by first|rfl|(simp only [List.length_set]<;>rfl))) A1.refl ?_
 rintro fu out outr i ⟨hm1,hR,hokoutr,ho⟩
 have:=VOk.le hokoutr
 obtain ⟨fu1,rfl⟩:∃ m,fu=m+1:=⟨fu - 1,by omega⟩
 replace hR:=(W4.eq_2 ..).symm.trans hR
 refine A8 (sr 8 rfl (ip' 5 3 [(9,bv (decide ((i:Int)<(l.length:Int))))] ?_))
 refine zid 3 0 9 12 (decide ((i:Int)<40)) (fun g2 g2p=>?_) ?_
 ·refine ip' 3 0 [(12,bv (decide ((i:Int)<40)))] ?_
  exact A3 (L3 2 9 12 g2 A1.refl (mc [vo A5 26 outr out] [true] rfl (by first|rfl|(simp only [List.length_set]<;>rfl))) rfl rfl rfl rfl rfl)
 refine ie ?_
 refine zja rfl hR ?_ ?_<;>clear hR<;>intro hR h3 h3p
 ·refine A6 (nx (A8 (B3 (A2 9 rfl (ip' 3 6 [(15,.slice (va outr.q) out.length outr.k),(16,.slice lq l.length lk),(17,iv (i:Int))] ?_)))))
  refine O8 0 rfl (by omega) fun a4 hq5=>?_
  refine ix rfl (L8 E4g rfl rfl hq5 rfl i rfl (by omega)) ?_
  refine ix rfl (V7 (us:=L4 (l.getD i Drf.zero)) E5x rfl rfl (N7 (c:=L4) (sz:=5) hq5 (fun _=>rfl) 0 rfl (gd Drf.zero (by omega))) rfl) ?_
  refine zca (B2q (l.getD i Drf.zero) (by first|assumption|(exact hdl _ (List.getElem_mem (by omega)))|(rw [gdE (by omega)];exact hdl _ (List.getElem_mem (by omega)))) _ rfl) fn0 ?_
  have:=A4l (l.getD i Drf.zero)
  refine it rfl (B6 (c:=A5) (xs:=([(I4 (l.getD i Drf.zero))]:List Act)) A3q rfl rfl rfl (by kernel_rfl)) fun b6=>?_
  have:([(I4 (l.getD i Drf.zero))]:List Act).length=1:=rfl
  refine it rfl (A6u (f:=A5) (r:=outr) (xs:=out) (ys:=([(I4 (l.getD i Drf.zero))]:List Act)) (pre:=[]) (post:=[]) E4l (fun _=>rfl) (fun _=>rfl) rfl rfl rfl rfl rfl rfl rfl rfl rfl (B0 0 rfl) hokoutr (by first|omega|(simp<;>omega)) (by first|omega|(simp<;>omega))) fun ⟨r7,hr8⟩=>?_
  have:=VOk.le hr8
  have:=VOk.cap hr8
  refine ip' 1 0 [(3,.slice (va r7.q) ((out++([(I4 (l.getD i Drf.zero))]:List Act)).length) r7.k)] ?_
  refine A3 (nx (A2 3 rfl (ip' 1 2 [(13,iv (i:Int))] ?_)))
  refine ix rfl (B5 rfl rfl rfl rfl (by omega)) ?_
  refine ip' 1 0 [(4,iv ((i:Int)+1))] ?_
  refine A3 ?_
  exact B5k (z1:=(fu1+1)) (z2:=out) (z3:=outr) (z4:=i) fu1 (out++([(I4 (l.getD i Drf.zero))]:List Act)) r7 (i+1) ⟨(by omega),hR,hr8,(by (simp<;>omega))⟩ (Nat.lt_succ_self _) (mc [vo A5 26 r7 (out++([(I4 (l.getD i Drf.zero))]:List Act))] [true] rfl (by first|rfl|(simp only [List.length_set]<;>rfl))) (A1.pick [1] rfl)
 refine I1 (nx (sr 2 rfl (ip' 2 0 [(2,.slice (va outr.q) out.length outr.k)] ?_)))
 subst hR
 refine ie (A9 ?_)
 exact zer hr hD (M9 rfl (C0 rfl)) ⟨outr,hokoutr⟩ (mc [vo A5 26 outr out] [true] rfl (by first|rfl|(simp only [List.length_set]<;>rfl))) fn0
end Go.Proofs.YtanighkpfmgnbaaGreatDoor
set_option linter.unusedVariables false
set_option linter.unusedSimpArgs false
set_option linter.unnecessarySimpa false
set_option maxRecDepth 100000
namespace Go.Proofs.YtanighkpfmgnbaaGreatDoor
open Go Go.Fen
def B9i:List UInt8:=[27,91,72,27,91,53,72,27,91,59,53,72,27,91,50,59,51,72]
def B7r:List UInt8:=[27,91,67,27,91,55,67,27,91,74,27,91,50,74]
def C3l:List UInt8:=[27,91,63,50,53,104,27,91,48,36,112,27,91,59,52,114,27,91,32,113]
def B6s (a:Act):List UInt8×Int :=
 (C1 (U2 ([a]:List Act)) fun (y0:List UInt8×Int)=>(y0.1,y0.2))
theorem D1q (a:Act) (hs:a.text.length≤100000000) (R:List UInt8×Int) (hR:B6s a=R):Con Tryz.prog 20 [ag (A5 a)] [] [B4u,B4t,Q0,O7,K9,S1] ({r:VR // VOk 1 R.1.length r}) (fun x=>.tuple #[.slice (va x.1.q) R.1.length x.1.k,iv R.2]) (fun x=>((vo cU8 5 x.1 R.1)++([]))) (fun x=>[]):=by
 refine zco Tryz.func20 [(0,ag (A5 a))] fun X hX hr hD=>?_
 replace hR:=(B6s.eq_1 ..).symm.trans hR
 refine sr 3 rfl (P0 3 0 [] (fun b1=>[(1,pt b1 0)]) (fun b1=>[bx b1 (A5 a) 26]) (fun b1=>?_))
 refine ie (sr 7 rfl (zrl 1 6 [0] [(4,ag (A5 a))] ?_))
 refine it rfl (B6 (c:=A5) (xs:=([a]:List Act)) A3q rfl rfl rfl (by kernel_rfl)) fun b2=>?_
 have:([a]:List Act).length=1:=rfl
 have hQ:=D4 hR;clear hR;obtain ⟨y0,hy0,hR⟩:=hQ
 refine it rfl (B8e (L2:=[bx b1 (A5 a) 26]) (A3e ([a]:List Act) (some ⟨b2,0,none⟩) 1 (by first|omega|(simp<;>omega)|(dsimp only;omega)|decide) (by first|omega|(simp<;>omega)|(dsimp only;omega)|decide) (by first|assumption|decide|exact fun x hx=>Nat.le_trans (hrow x hx) (by decide)|exact fun x hx=>Nat.le_trans (of_decide_eq_true (List.all_eq_true.1 hbt x hx)) (by decide)|(intro x hx;simp only [List.nil_append,List.mem_append] at hx;rcases hx with hx|hx<;>first|exact Nat.le_trans (hrow x hx) (by decide)|exact Nat.le_trans (hpt x hx) (by decide))|(intro x hx;rw [List.mem_singleton.1 hx];omega)|exact fun x hx=>Nat.le_trans (hrow x (List.mem_of_mem_take hx)) (by decide)|exact fun x hx=>Nat.le_trans (hrow x (List.mem_of_mem_drop hx)) (by decide)|exact fun x hx=>Nat.le_trans (hrow x (List.mem_of_mem_drop (List.mem_of_mem_take hx))) (by decide)|omega) y0 hy0) rfl rfl rfl rfl rfl A1.refl (List.Perm.refl _) (fun ⟨r3,hk4⟩=>(bx b1 (A5 a) 26::(vo cU8 5 r3 y0.1)++([]))) (fun ⟨r3,hk4⟩=>X1 [vo cU8 5 r3 y0.1,[bx b1 (A5 a) 26]] [1,0] 2 rfl (by decide) (by first|rfl|simp only [List.flatten_cons,List.flatten_nil,List.append_nil,List.cons_append,List.nil_append,List.append_assoc]) [[bx b1 (A5 a) 26],vo cU8 5 r3 y0.1] rfl (by first|rfl|simp only [List.flatten_cons,List.flatten_nil,List.append_nil,List.cons_append,List.nil_append,List.append_assoc]))) fun ⟨r3,hk4⟩=>?_
 have:=VOk.le hk4
 have:=VOk.cap hk4
 try have:=A0z ([a]:List Act) (fun x hx=>Nat.le_trans (hrow x (by first|exact hx|exact List.mem_of_mem_take hx|exact List.mem_of_mem_drop hx)) (by decide));try rw [hy0] at this
 refine ip' 4 0 [(2,.slice (va r3.q) y0.1.length r3.k),(3,iv y0.2)] ?_
 subst hR
 refine ie (A9 ?_)
 exact zer hr hD (A7i rfl (C0 rfl) (C0 rfl)) ⟨r3,hk4⟩ (mc [[bx b1 (A5 a) 26],vo cU8 5 r3 y0.1] [false,true] rfl (by first|rfl|(simp only [List.length_set]<;>rfl))) fn0
def A7 (kind:Int) (n:Int) (m:Int):Act :=
 {Act.zero with kind:=kind,n:=n,m:=m}
theorem P6 (kind:Int) (n:Int) (m:Int) (R:Act) (hR:A7 kind n m=R):I6 Tryz.prog 23 [iv kind,iv n,iv m] [] (ag (A5 R)):=by
 refine zco Tryz.func23 [(0,iv kind),(1,iv n),(2,iv m)] fun X hX hr hD=>?_
 replace hR:=(A7.eq_1 ..).symm.trans hR
 refine sr 1 rfl (P0 1 0 [] (fun b1=>[(6,pt b1 0)]) (fun b1=>[bx b1 (A5 Act.zero) 26]) (fun b1=>?_))
 refine ie (sr 5 rfl (zrg 5 0 [0] [] [bx b1 (A5 ({Act.zero with kind:=kind,n:=n,m:=m})) 26] ?_))
 subst hR
 refine ie (A9 ?_)
 exact zer hr hD (M9 rfl (F0 (us:=A5 ({Act.zero with kind:=kind,n:=n,m:=m})) A3v rfl 0 rfl rfl rfl)) () (mk [false] rfl) fn0
def J3 (s:List UInt8) (l:List Act):Bool :=
 (C1 (U2 l) fun (y0:List UInt8×Int)=>((decide (y0.1=s))&&(decide (y0.2=0))))
theorem A8e (s:List UInt8) (l:List Act) (lq:Option Addr) (lk:Nat) (hll:l.length≤9223372036854775807) (hcl:l.length≤lk) (hkind:∀ a ∈ l,a.text.length≤100000000) (R:Bool) (hR:J3 s l=R):I6 Tryz.prog 22 [sv s,.slice lq l.length lk] [sl A5 lq l,B4u,B4t,Q0,O7,K9,S1] (bv R):=by
 refine zco Tryz.func22 [(0,sv s),(1,.slice lq l.length lk)] fun X hX hr hD=>?_
 replace hR:=(J3.eq_1 ..).symm.trans hR
 refine sr 1 rfl (ip' 1 0 [] ?_)
 refine ie (sr 7 rfl (ip' 1 6 [(8,.slice lq l.length lk)] ?_))
 have hQ:=D4 hR;clear hR;obtain ⟨y0,hy0,hR⟩:=hQ
 refine it rfl (C2 (L2:=[]) (A3e l lq lk (by first|omega|(simp<;>omega)|(dsimp only;omega)|decide) (by first|omega|(simp<;>omega)|(dsimp only;omega)|decide) (by first|assumption|decide|exact fun x hx=>Nat.le_trans (hrow x hx) (by decide)|exact fun x hx=>Nat.le_trans (of_decide_eq_true (List.all_eq_true.1 hbt x hx)) (by decide)|(intro x hx;simp only [List.nil_append,List.mem_append] at hx;rcases hx with hx|hx<;>first|exact Nat.le_trans (hrow x hx) (by decide)|exact Nat.le_trans (hpt x hx) (by decide))|(intro x hx;rw [List.mem_singleton.1 hx];omega)|exact fun x hx=>Nat.le_trans (hrow x (List.mem_of_mem_take hx)) (by decide)|exact fun x hx=>Nat.le_trans (hrow x (List.mem_of_mem_drop hx)) (by decide)|exact fun x hx=>Nat.le_trans (hrow x (List.mem_of_mem_drop (List.mem_of_mem_take hx))) (by decide)|omega) y0 hy0) rfl rfl rfl rfl rfl A1.refl (List.Perm.refl _) (fun ⟨r1,hk2⟩=>((vo cU8 5 r1 y0.1)++([]))) (fun _=>by first|rfl|simp only [List.append_nil,List.cons_append,List.nil_append,List.append_assoc])) fun ⟨r1,hk2⟩=>?_
 have:=VOk.le hk2
 have:=VOk.cap hk2
 try have:=A0z l (fun x hx=>Nat.le_trans (hrow x (by first|exact hx|exact List.mem_of_mem_take hx|exact List.mem_of_mem_drop hx)) (by decide));try rw [hy0] at this
 refine A3i [] [] (T:=5) (c:=cU8) (r:=r1) (xs:=y0.1) hk2 (by first|rfl|simp only [List.cons_append,List.append_assoc,List.nil_append,List.append_nil]) ?_
 refine ip' 5 0 [(5,.slice (va r1.q) y0.1.length r1.k),(6,iv y0.2)] ?_
 refine ie (sr 9 rfl (ip' 1 8 [(12,.slice (va r1.q) y0.1.length r1.k)] ?_))
 refine ix rfl (A3d Tryz.underlying9 Tryz.underlying30 rfl rfl (B0 0 rfl) rfl (by kernel_rfl)) ?_
 refine ip' 1 6 [(14,sv s)] ?_
 refine ix rfl (B7u rfl rfl rfl) ?_
 refine ip' 1 4 [(16,bv (decide (y0.1=s)))] ?_
 refine zid 3 1 16 19 (decide (y0.2=0)) (fun g3 g3p=>?_) ?_
 ·refine ip' 3 0 [(19,bv (decide (y0.2=0)))] ?_
  exact zai 2 16 19 g3
 refine ip' 1 0 [(4,bv ((decide (y0.1=s))&&(decide (y0.2=0))))] ?_
 subst hR
 refine ie (A9 ?_)
 exact F1 hr hD
def A6y:Bool :=
 (((((J3 B9i ([(A7 19 1 1),(A7 19 5 1),(A7 19 1 5),(A7 19 2 3)]:List Act))&&(J3 B7r ([(A7 20 2 1),(A7 20 2 7),(A7 26 0 0),(A7 26 2 0)]:List Act)))&&(J3 ([27,91,49,59,51,49,109,97,27,91,48,109]:List UInt8) ([(A7 39 1 1),{Act.zero with kind:=39,n:=4,color:=(⟨1,1⟩:Col)},(A7 1 97 0),(A7 39 0 0)]:List Act)))&&(J3 C3l ([(A7 37 25 1),(A7 43 0 0),(A7 38 0 4),(A7 40 0 0)]:List Act)))&&(J3 ([27,93,50,59,116,27,92,27,43,48,14]:List UInt8) ([{Act.zero with kind:=44,text:=([116]:List UInt8)},(A7 17 3 1),(A7 7 1 0)]:List Act)))
theorem C4u (R:Bool) (hR:A6y=R):I6 Tryz.prog 17 [] [B4u,B4t,Q0,O7,K9,S1] (bv R):=by
 refine zco Tryz.func17 [] fun X hX hr hD=>?_
 replace hR:=(A6y.eq_1 ..).symm.trans hR
 refine sr 1 rfl (ip' 1 0 [] ?_)
 refine ie (sr 15 rfl (zca (P6 19 1 1 _ rfl) fn0 ?_))
 refine zca (P6 19 5 1 _ rfl) fn0 ?_
 refine zca (P6 19 1 5 _ rfl) fn0 ?_
 refine zca (P6 19 2 3 _ rfl) fn0 ?_
 refine it rfl (B6 (c:=A5) (xs:=([(A7 19 1 1),(A7 19 5 1),(A7 19 1 5),(A7 19 2 3)]:List Act)) A3q rfl rfl rfl (by kernel_rfl)) fun b1=>?_
 have:([(A7 19 1 1),(A7 19 5 1),(A7 19 1 5),(A7 19 2 3)]:List Act).length=4:=rfl
 refine zca (A8e B9i ([(A7 19 1 1),(A7 19 5 1),(A7 19 1 5),(A7 19 2 3)]:List Act) (some ⟨b1,0,none⟩) 4 (by first|omega|(simp<;>omega)|(dsimp only;omega)|decide) (by first|omega|(simp<;>omega)|(dsimp only;omega)|decide) (by first|assumption|decide|omega) _ rfl) A1.refl ?_
 refine ip' 1 8 [(11,bv (J3 B9i ([(A7 19 1 1),(A7 19 5 1),(A7 19 1 5),(A7 19 2 3)]:List Act)))] ?_
 refine zia 7 1 11 18 (J3 B7r ([(A7 20 2 1),(A7 20 2 7),(A7 26 0 0),(A7 26 2 0)]:List Act)) (fun g2=>?_) ?_
 ·refine zca (P6 20 2 1 _ rfl) fn0 ?_
  refine zca (P6 20 2 7 _ rfl) fn0 ?_
  refine zca (P6 26 0 0 _ rfl) fn0 ?_
  refine zca (P6 26 2 0 _ rfl) fn0 ?_
  refine it rfl (B6 (c:=A5) (xs:=([(A7 20 2 1),(A7 20 2 7),(A7 26 0 0),(A7 26 2 0)]:List Act)) A3q rfl rfl rfl (by kernel_rfl)) fun b3=>?_
  have:([(A7 20 2 1),(A7 20 2 7),(A7 26 0 0),(A7 26 2 0)]:List Act).length=4:=rfl
  refine zca (A8e B7r ([(A7 20 2 1),(A7 20 2 7),(A7 26 0 0),(A7 26 2 0)]:List Act) (some ⟨b3,0,none⟩) 4 (by first|omega|(simp<;>omega)|(dsimp only;omega)|decide) (by first|omega|(simp<;>omega)|(dsimp only;omega)|decide) (by first|assumption|decide|omega) _ rfl) (A1.pick [0,2,3,4,5,6,7] rfl) ?_
  refine ip' 1 0 [(18,bv (J3 B7r ([(A7 20 2 1),(A7 20 2 7),(A7 26 0 0),(A7 26 2 0)]:List Act)))] ?_
  exact A3 (L3 8 11 18 g2 (A1.pick [1,2,3,4,5,6,7] rfl) (mk [] rfl) rfl rfl rfl rfl rfl)
 refine ip' 1 0 [(1,bv ((J3 B9i ([(A7 19 1 1),(A7 19 5 1),(A7 19 1 5),(A7 19 2 3)]:List Act))&&(J3 B7r ([(A7 20 2 1),(A7 20 2 7),(A7 26 0 0),(A7 26 2 0)]:List Act))))] ?_
 refine ie (sr 4 rfl (P0 4 0 [0] (fun b4=>[(2,pt b4 0)]) (fun b4=>[bx b4 (A5 ({Act.zero with kind:=39,n:=4,color:=(⟨1,1⟩:Col)})) 26]) (fun b4=>?_)))
 refine ie (sh 7 [(7,[bx b4 (A5 ({Act.zero with kind:=39,n:=4,color:=(⟨1,1⟩:Col)})) 26])] [sl A5 (some ⟨b1,0,none⟩) ([(A7 19 1 1),(A7 19 5 1),(A7 19 1 5),(A7 19 2 3)]:List Act),B4u,B4t,Q0,O7,K9,S1] [bx b4 (A5 ({Act.zero with kind:=39,n:=4,color:=(⟨1,1⟩:Col)})) 26] (zml 7 0) (by kernel_rfl) rfl (by kernel_rfl) (by kernel_rfl) (by kernel_rfl) (mk [true] rfl) A1.refl ?_)
 refine zhl 1 [bx b4 (A5 ({Act.zero with kind:=39,n:=4,color:=(⟨1,1⟩:Col)})) 26] (zml 7 2) rfl (J6 (us:=A5 ({Act.zero with kind:=39,n:=4,color:=(⟨1,1⟩:Col)})) A3v rfl rfl 0 rfl rfl rfl) ?_
 refine zho 0 [bx b4 (A5 ({Act.zero with kind:=39,n:=4,color:=(⟨1,1⟩:Col)})) 26] (zml 7 3) rfl (Det.tri (A0p (P6 39 1 1 _ rfl) rfl rfl rfl rfl rfl fn0)) (fun _=>(mk [true] rfl)) (fun _=>A1.refl) fun _=>?_
 refine zho 2 [bx b4 (A5 ({Act.zero with kind:=39,n:=4,color:=(⟨1,1⟩:Col)})) 26] (zml 7 7) rfl (Det.tri (A0p (P6 1 97 0 _ rfl) rfl rfl rfl rfl rfl fn0)) (fun _=>(mk [true] rfl)) (fun _=>A1.refl) fun _=>?_
 refine zho 3 [bx b4 (A5 ({Act.zero with kind:=39,n:=4,color:=(⟨1,1⟩:Col)})) 26] (zml 7 15) rfl (Det.tri (A0p (P6 39 0 0 _ rfl) rfl rfl rfl rfl rfl fn0)) (fun _=>(mk [true] rfl)) (fun _=>A1.refl) fun _=>?_
 refine zho 4 [bx b4 (A5 ({Act.zero with kind:=39,n:=4,color:=(⟨1,1⟩:Col)})) 26] (zml 7 31) rfl (B6 (c:=A5) (xs:=([(A7 39 1 1),{Act.zero with kind:=39,n:=4,color:=(⟨1,1⟩:Col)},(A7 1 97 0),(A7 39 0 0)]:List Act)) A3q rfl rfl rfl (by kernel_rfl)) (fun b5=>(mk [true] rfl)) (fun b5=>(A1.pick [1,2,3,4,5,6,7] rfl)) fun b5=>?_
 have:([(A7 39 1 1),{Act.zero with kind:=39,n:=4,color:=(⟨1,1⟩:Col)},(A7 1 97 0),(A7 39 0 0)]:List Act).length=4:=rfl
 refine zho 5 [bx b4 (A5 ({Act.zero with kind:=39,n:=4,color:=(⟨1,1⟩:Col)})) 26] (zml 7 63) rfl (Det.tri (A0p (A8e ([27,91,49,59,51,49,109,97,27,91,48,109]:List UInt8) ([(A7 39 1 1),{Act.zero with kind:=39,n:=4,color:=(⟨1,1⟩:Col)},(A7 1 97 0),(A7 39 0 0)]:List Act) (some ⟨b5,0,none⟩) 4 (by first|omega|(simp<;>omega)|(dsimp only;omega)|decide) (by first|omega|(simp<;>omega)|(dsimp only;omega)|decide) (by first|assumption|decide|omega) _ rfl) rfl rfl rfl rfl rfl (A1.pick [0,2,3,4,5,6,7] rfl))) (fun _=>(mk [true] rfl)) (fun _=>(A1.pick [1,2,3,4,5,6,7] rfl)) fun _=>?_
 refine zhp [6] 0 (zml 7 127) [(3,bv (J3 ([27,91,49,59,51,49,109,97,27,91,48,109]:List UInt8) ([(A7 39 1 1),{Act.zero with kind:=39,n:=4,color:=(⟨1,1⟩:Col)},(A7 1 97 0),(A7 39 0 0)]:List Act)))] ?_
 refine A6k (by kernel_rfl) ?_
 refine sr 7 rfl (zca (P6 37 25 1 _ rfl) fn0 ?_)
 refine zca (P6 43 0 0 _ rfl) fn0 ?_
 refine zca (P6 38 0 4 _ rfl) fn0 ?_
 refine zca (P6 40 0 0 _ rfl) fn0 ?_
 refine it rfl (B6 (c:=A5) (xs:=([(A7 37 25 1),(A7 43 0 0),(A7 38 0 4),(A7 40 0 0)]:List Act)) A3q rfl rfl rfl (by kernel_rfl)) fun b6=>?_
 have:([(A7 37 25 1),(A7 43 0 0),(A7 38 0 4),(A7 40 0 0)]:List Act).length=4:=rfl
 refine zca (A8e C3l ([(A7 37 25 1),(A7 43 0 0),(A7 38 0 4),(A7 40 0 0)]:List Act) (some ⟨b6,0,none⟩) 4 (by first|omega|(simp<;>omega)|(dsimp only;omega)|decide) (by first|omega|(simp<;>omega)|(dsimp only;omega)|decide) (by first|assumption|decide|omega) _ rfl) (A1.pick [0,3,4,5,6,7,8] rfl) ?_
 refine ip' 1 0 [(4,bv (J3 C3l ([(A7 37 25 1),(A7 43 0 0),(A7 38 0 4),(A7 40 0 0)]:List Act)))] ?_
 refine ie (sr 15 rfl (ip' 2 13 [(34,bv ((J3 B9i ([(A7 19 1 1),(A7 19 5 1),(A7 19 1 5),(A7 19 2 3)]:List Act))&&(J3 B7r ([(A7 20 2 1),(A7 20 2 7),(A7 26 0 0),(A7 26 2 0)]:List Act))))] ?_))
 refine zia 2 11 34 36 (J3 ([27,91,49,59,51,49,109,97,27,91,48,109]:List UInt8) ([(A7 39 1 1),{Act.zero with kind:=39,n:=4,color:=(⟨1,1⟩:Col)},(A7 1 97 0),(A7 39 0 0)]:List Act)) (fun g7=>?_) ?_
 ·have g7p:=g7;try simp at g7p
  refine ip' 2 0 [(36,bv (J3 ([27,91,49,59,51,49,109,97,27,91,48,109]:List UInt8) ([(A7 39 1 1),{Act.zero with kind:=39,n:=4,color:=(⟨1,1⟩:Col)},(A7 1 97 0),(A7 39 0 0)]:List Act)))] ?_
  exact zai 2 34 36 g7
 refine ip' 1 10 [(37,bv (((J3 B9i ([(A7 19 1 1),(A7 19 5 1),(A7 19 1 5),(A7 19 2 3)]:List Act))&&(J3 B7r ([(A7 20 2 1),(A7 20 2 7),(A7 26 0 0),(A7 26 2 0)]:List Act)))&&(J3 ([27,91,49,59,51,49,109,97,27,91,48,109]:List UInt8) ([(A7 39 1 1),{Act.zero with kind:=39,n:=4,color:=(⟨1,1⟩:Col)},(A7 1 97 0),(A7 39 0 0)]:List Act))))] ?_
 refine zia 2 8 37 39 (J3 C3l ([(A7 37 25 1),(A7 43 0 0),(A7 38 0 4),(A7 40 0 0)]:List Act)) (fun g8=>?_) ?_
 ·have g8p:=g8;try simp at g8p
  refine ip' 2 0 [(39,bv (J3 C3l ([(A7 37 25 1),(A7 43 0 0),(A7 38 0 4),(A7 40 0 0)]:List Act)))] ?_
  exact zai 2 37 39 g8
 refine ip' 1 7 [(40,bv ((((J3 B9i ([(A7 19 1 1),(A7 19 5 1),(A7 19 1 5),(A7 19 2 3)]:List Act))&&(J3 B7r ([(A7 20 2 1),(A7 20 2 7),(A7 26 0 0),(A7 26 2 0)]:List Act)))&&(J3 ([27,91,49,59,51,49,109,97,27,91,48,109]:List UInt8) ([(A7 39 1 1),{Act.zero with kind:=39,n:=4,color:=(⟨1,1⟩:Col)},(A7 1 97 0),(A7 39 0 0)]:List Act)))&&(J3 C3l ([(A7 37 25 1),(A7 43 0 0),(A7 38 0 4),(A7 40 0 0)]:List Act))))] ?_
 refine zia 6 1 40 46 (J3 ([27,93,50,59,116,27,92,27,43,48,14]:List UInt8) ([{Act.zero with kind:=44,text:=([116]:List UInt8)},(A7 17 3 1),(A7 7 1 0)]:List Act)) (fun g9=>?_) ?_
 ·have g9p:=g9;try simp at g9p
  refine zrl 1 5 [] [(41,ag (A5 ({Act.zero with kind:=44,text:=([116]:List UInt8)})))] ?_
  refine zca (P6 17 3 1 _ rfl) fn0 ?_
  refine zca (P6 7 1 0 _ rfl) fn0 ?_
  refine it rfl (B6 (c:=A5) (xs:=([{Act.zero with kind:=44,text:=([116]:List UInt8)},(A7 17 3 1),(A7 7 1 0)]:List Act)) A3q rfl rfl rfl (by kernel_rfl)) fun b10=>?_
  have:([{Act.zero with kind:=44,text:=([116]:List UInt8)},(A7 17 3 1),(A7 7 1 0)]:List Act).length=3:=rfl
  refine zca (A8e ([27,93,50,59,116,27,92,27,43,48,14]:List UInt8) ([{Act.zero with kind:=44,text:=([116]:List UInt8)},(A7 17 3 1),(A7 7 1 0)]:List Act) (some ⟨b10,0,none⟩) 3 (by first|omega|(simp<;>omega)|(dsimp only;omega)|decide) (by first|omega|(simp<;>omega)|(dsimp only;omega)|decide) (by first|assumption|decide|omega) _ rfl) (A1.pick [0,4,5,6,7,8,9] rfl) ?_
  refine ip' 1 0 [(46,bv (J3 ([27,93,50,59,116,27,92,27,43,48,14]:List UInt8) ([{Act.zero with kind:=44,text:=([116]:List UInt8)},(A7 17 3 1),(A7 7 1 0)]:List Act)))] ?_
  exact A3 (L3 7 40 46 g9 (A1.pick [1,2,3,4,5,6,7,8,9] rfl) (mk [true] rfl) rfl rfl rfl rfl rfl)
 refine ip' 1 0 [(0,bv (((((J3 B9i ([(A7 19 1 1),(A7 19 5 1),(A7 19 1 5),(A7 19 2 3)]:List Act))&&(J3 B7r ([(A7 20 2 1),(A7 20 2 7),(A7 26 0 0),(A7 26 2 0)]:List Act)))&&(J3 ([27,91,49,59,51,49,109,97,27,91,48,109]:List UInt8) ([(A7 39 1 1),{Act.zero with kind:=39,n:=4,color:=(⟨1,1⟩:Col)},(A7 1 97 0),(A7 39 0 0)]:List Act)))&&(J3 C3l ([(A7 37 25 1),(A7 43 0 0),(A7 38 0 4),(A7 40 0 0)]:List Act)))&&(J3 ([27,93,50,59,116,27,92,27,43,48,14]:List UInt8) ([{Act.zero with kind:=44,text:=([116]:List UInt8)},(A7 17 3 1),(A7 7 1 0)]:List Act))))] ?_
 subst hR
 refine ie (A9 ?_)
 exact F1 hr hD
theorem E5a {x0 x1 x2 x3 x4 x5:Act} (h0:x0.text.length≤100000000) (h1:x1.text.length≤100000000) (h2:x2.text.length≤100000000) (h3:x3.text.length≤100000000) (h4:x4.text.length≤100000000) (h5:x5.text.length≤100000000) :
  ∀ k:Nat,(([x0,x1,x2,x3,x4,x5]:List Act).getD k Act.zero).text.length≤100000000
 | 0=>h0 | 1=>h1 | 2=>h2 | 3=>h3 | 4=>h4 | 5=>h5 | _+6=>Nat.zero_le _
end Go.Proofs.YtanighkpfmgnbaaGreatDoor
set_option linter.unusedVariables false
set_option linter.unusedSimpArgs false
set_option linter.unnecessarySimpa false
set_option maxRecDepth 100000
namespace Go.Proofs.YtanighkpfmgnbaaGreatDoor
open Go Go.Fen
end Go.Proofs.YtanighkpfmgnbaaGreatDoor
set_option linter.unusedVariables false
set_option linter.unusedSimpArgs false
set_option linter.unnecessarySimpa false
set_option maxRecDepth 100000
namespace Go.Proofs.YtanighkpfmgnbaaGreatDoor
open Go Go.Fen
def N6 (y0:List Act) (y1:List UInt8×Int) (y2:List UInt8×Int) (y3:List UInt8×Int):List Act→Nat→Bool
 | [],i=>(decide ((y3.1.length:Int)≤((y1.1.length:Int)+(y2.1.length:Int))))
 | hd_l0::tl_l0,i=>(C1 (B6s hd_l0) fun (y4:List UInt8×Int)=>(C1 (U2 ((y0.drop i).take ((i+1) - i))) fun (y5:List UInt8×Int)=>(bif ((((!decide (y4.2=0))||(!decide (y5.2=0)))||(!(decide (y4.1=y5.1))))||(decide ((y4.1.length:Int)=0))) then false else N6 y0 y1 y2 y3 tl_l0 (i+1))))
def A4c (l:List Drf) (at_:UInt8):Bool :=
 (bif (!A6y) then false else (C1 (A5x l) fun (y0:List Act)=>(C1 (U2 (y0.take ((Int.tmod (at_.toNat:Int) ((y0.length:Int)+1)).toNat))) fun (y1:List UInt8×Int)=>(C1 (U2 (y0.drop ((Int.tmod (at_.toNat:Int) ((y0.length:Int)+1)).toNat))) fun (y2:List UInt8×Int)=>(C1 (U2 y0) fun (y3:List UInt8×Int)=>(bif (((!decide (y1.2=0))||(!decide (y2.2=0)))||(!decide (y3.2=0))) then false else (bif ((!((((decide ((0:Int)<(Int.tmod (at_.toNat:Int) ((y0.length:Int)+1))))&&(decide ((Int.tmod (at_.toNat:Int) ((y0.length:Int)+1))<(y0.length:Int))))&&(decide ((y0.getD ((Int.tmod (at_.toNat:Int) ((y0.length:Int)+1)).toNat - 1) Act.zero).kind=39)))&&(decide ((y0.getD ((Int.tmod (at_.toNat:Int) ((y0.length:Int)+1)).toNat) Act.zero).kind=39))))&&(!(decide (y3.1=(y1.1++y2.1))))) then false else N6 y0 y1 y2 y3 y0 0)))))))
theorem B7m (l:List Drf) (at_:UInt8) (lq:Option Addr) (lk:Nat) (hll:l.length≤9223372036854775807) (hcl:l.length≤lk) (hdl:∀ d ∈ l,B0u d) (R:Bool) (hR:A4c l at_=R):I6 Tryz.prog 6 [.slice lq l.length lk,.int .u8 (at_.toNat:Int)] [sl L4 lq l,B4u,B4t,Q0,O7,K9,S1] (bv R):=by
 refine zco Tryz.func6 [(0,.slice lq l.length lk),(1,.int .u8 (at_.toNat:Int))] fun X hX hr hD=>?_
 replace hR:=(A4c.eq_1 ..).symm.trans hR
 refine sr 1 rfl (ip' 1 0 [] ?_)
 refine ie (A8 (sr 2 rfl (zca (C4u _ rfl) (A1.pick [1,2,3,4,5,6] rfl) ?_)))
 refine ip' 1 0 [(20,bv (!A6y))] ?_
 refine ie ?_
 refine zjb rfl hR ?_ ?_<;>clear hR<;>intro hR h1
 ·refine sr 1 rfl (ip' 1 0 [(4,bv false)] ?_)
  subst hR
  refine ie (A9 ?_)
  exact F1 hr hD
 refine A6 (nx (sr 3 rfl (ip' 1 2 [(21,.slice lq l.length lk)] ?_)))
 have hQ:=D4 hR;clear hR;obtain ⟨y0,hy0,hR⟩:=hQ
 refine it rfl (C2 (L2:=[]) (D0o l lq lk (by first|omega|(simp<;>omega)|(dsimp only;omega)|decide) (by first|omega|(simp<;>omega)|(dsimp only;omega)|decide) (by first|assumption|omega) y0 hy0) rfl rfl rfl rfl rfl (A1.pick [0] rfl) (List.Perm.refl _) (fun ⟨r2,hk3⟩=>((vo A5 26 r2 y0)++([]))) (fun _=>by first|rfl|simp only [List.append_nil,List.cons_append,List.nil_append,List.append_assoc])) fun ⟨r2,hk3⟩=>?_
 have:=VOk.le hk3
 have:=VOk.cap hk3
 have hrow:=C2m l;rw [hy0] at hrow
 have hrlen:=B4x l;rw [hy0] at hrlen
 refine A3i [] [] (T:=26) (c:=A5) (r:=r2) (xs:=y0) hk3 (by first|rfl|simp only [List.cons_append,List.append_assoc,List.nil_append,List.append_nil]) ?_
 refine ip' 1 0 [(5,.slice (va r2.q) y0.length r2.k)] ?_
 refine ie (sr 7 rfl (ip' 1 6 [(23,.int .u8 (at_.toNat:Int))] ?_))
 refine ix rfl (N3 (c:=(at_.toNat:Int)) Tryz.underlying3 (by kernel_rfl) rfl rfl (W9 at_)) ?_
 refine ip' 2 3 [(26,iv (y0.length:Int))] ?_
 refine ix rfl (B5 rfl rfl rfl rfl (by omega)) ?_
 refine ix rfl (B2c rfl rfl rfl (by first|omega|exact C6u (by decide) (by first|omega|(simp<;>omega))|omega) rfl) ?_
 have:=ztm (m:=(at_.toNat:Int)) (k:=((y0.length:Int)+1)) (by omega) (by omega)
 refine ip' 1 0 [(6,iv (Int.tmod (at_.toNat:Int) ((y0.length:Int)+1)))] ?_
 refine ie (sr 9 rfl (ip' 2 7 [(30,.slice (va r2.q) y0.length r2.k),(31,iv (Int.tmod (at_.toNat:Int) ((y0.length:Int)+1)))] ?_))
 refine D8 (D9t (B0 0 rfl) ((Int.tmod (at_.toNat:Int) ((y0.length:Int)+1)).toNat)) ?_
 refine ix rfl (C8s (n':=(y0.take ((Int.tmod (at_.toNat:Int) ((y0.length:Int)+1)).toNat)).length) A3q rfl rfl ((Int.tmod (at_.toNat:Int) ((y0.length:Int)+1)).toNat) r2.k (A3l rfl (by omega)) A5i (by omega) (by omega) (by first|rfl|omega|(simp<;>omega)|(simp;done)) rfl) ?_
 have hQ:=D4 hR;clear hR;obtain ⟨y1,hy1,hR⟩:=hQ
 refine it rfl (C2 (L2:=[]) (A3e (y0.take ((Int.tmod (at_.toNat:Int) ((y0.length:Int)+1)).toNat)) (va r2.q) r2.k (by first|omega|(simp<;>omega)|(dsimp only;omega)|decide) (by first|omega|(simp<;>omega)|(dsimp only;omega)|decide) (by first|assumption|decide|exact fun x hx=>Nat.le_trans (hrow x hx) (by decide)|exact fun x hx=>Nat.le_trans (of_decide_eq_true (List.all_eq_true.1 hbt x hx)) (by decide)|(intro x hx;simp only [List.nil_append,List.mem_append] at hx;rcases hx with hx|hx<;>first|exact Nat.le_trans (hrow x hx) (by decide)|exact Nat.le_trans (hpt x hx) (by decide))|(intro x hx;rw [List.mem_singleton.1 hx];omega)|exact fun x hx=>Nat.le_trans (hrow x (List.mem_of_mem_take hx)) (by decide)|exact fun x hx=>Nat.le_trans (hrow x (List.mem_of_mem_drop hx)) (by decide)|exact fun x hx=>Nat.le_trans (hrow x (List.mem_of_mem_drop (List.mem_of_mem_take hx))) (by decide)|omega) y1 hy1) rfl rfl rfl rfl rfl (A1.pick [0,3,4,5,6,7,8] rfl) (List.Perm.refl _) (fun ⟨r4,hk5⟩=>((vo cU8 5 r4 y1.1)++([]))) (fun _=>by first|rfl|simp only [List.append_nil,List.cons_append,List.nil_append,List.append_assoc])) fun ⟨r4,hk5⟩=>?_
 have:=VOk.le hk5
 have:=VOk.cap hk5
 try have:=A0z (y0.take ((Int.tmod (at_.toNat:Int) ((y0.length:Int)+1)).toNat)) (fun x hx=>Nat.le_trans (hrow x (by first|exact hx|exact List.mem_of_mem_take hx|exact List.mem_of_mem_drop hx)) (by decide));try rw [hy1] at this
 refine A3i [] [] (T:=5) (c:=cU8) (r:=r4) (xs:=y1.1) hk5 (by first|rfl|simp only [List.cons_append,List.append_assoc,List.nil_append,List.append_nil]) ?_
 refine ip' 5 0 [(7,.slice (va r4.q) y1.1.length r4.k),(8,iv y1.2)] ?_
 refine ie (sr 9 rfl (ip' 2 7 [(37,.slice (va r2.q) y0.length r2.k),(38,iv (Int.tmod (at_.toNat:Int) ((y0.length:Int)+1)))] ?_))
 refine D8 (C6s (c:=A5) (sz:=6) (xs:=y0) (B0 2 rfl) ((Int.tmod (at_.toNat:Int) ((y0.length:Int)+1)).toNat) r2.k (fun _=>rfl) (by omega) (by omega)) ?_
 refine ix rfl (B1z (n':=(y0.drop ((Int.tmod (at_.toNat:Int) ((y0.length:Int)+1)).toNat)).length) A3q rfl rfl ((Int.tmod (at_.toNat:Int) ((y0.length:Int)+1)).toNat) y0.length r2.k (A3l rfl (by omega)) A5i A5i (by omega) (by omega) (by omega) (by first|rfl|omega|(simp<;>omega)|(simp;done)) rfl) ?_
 have hQ:=D4 hR;clear hR;obtain ⟨y2,hy2,hR⟩:=hQ
 refine it rfl (C2 (L2:=[]) (A3e (y0.drop ((Int.tmod (at_.toNat:Int) ((y0.length:Int)+1)).toNat)) (B5h (va r2.q) ((Int.tmod (at_.toNat:Int) ((y0.length:Int)+1)).toNat) 6 r2.k) (r2.k - ((Int.tmod (at_.toNat:Int) ((y0.length:Int)+1)).toNat)) (by first|omega|(simp<;>omega)|(dsimp only;omega)|decide) (by first|omega|(simp<;>omega)|(dsimp only;omega)|decide) (by first|assumption|decide|exact fun x hx=>Nat.le_trans (hrow x hx) (by decide)|exact fun x hx=>Nat.le_trans (of_decide_eq_true (List.all_eq_true.1 hbt x hx)) (by decide)|(intro x hx;simp only [List.nil_append,List.mem_append] at hx;rcases hx with hx|hx<;>first|exact Nat.le_trans (hrow x hx) (by decide)|exact Nat.le_trans (hpt x hx) (by decide))|(intro x hx;rw [List.mem_singleton.1 hx];omega)|exact fun x hx=>Nat.le_trans (hrow x (List.mem_of_mem_take hx)) (by decide)|exact fun x hx=>Nat.le_trans (hrow x (List.mem_of_mem_drop hx)) (by decide)|exact fun x hx=>Nat.le_trans (hrow x (List.mem_of_mem_drop (List.mem_of_mem_take hx))) (by decide)|omega) y2 hy2) rfl rfl rfl rfl rfl (A1.pick [0,5,6,7,8,9,10] rfl) (List.Perm.refl _) (fun ⟨r6,hk7⟩=>((vo cU8 5 r6 y2.1)++([]))) (fun _=>by first|rfl|simp only [List.append_nil,List.cons_append,List.nil_append,List.append_assoc])) fun ⟨r6,hk7⟩=>?_
 have:=VOk.le hk7
 have:=VOk.cap hk7
 try have:=A0z (y0.drop ((Int.tmod (at_.toNat:Int) ((y0.length:Int)+1)).toNat)) (fun x hx=>Nat.le_trans (hrow x (by first|exact hx|exact List.mem_of_mem_take hx|exact List.mem_of_mem_drop hx)) (by decide));try rw [hy2] at this
 refine A3i [] [] (T:=5) (c:=cU8) (r:=r6) (xs:=y2.1) hk7 (by first|rfl|simp only [List.cons_append,List.append_assoc,List.nil_append,List.append_nil]) ?_
 refine ip' 5 0 [(9,.slice (va r6.q) y2.1.length r6.k),(10,iv y2.2)] ?_
 refine ie (sr 7 rfl (ip' 1 6 [(44,.slice (va r2.q) y0.length r2.k)] ?_))
 have hQ:=D4 hR;clear hR;obtain ⟨y3,hy3,hR⟩:=hQ
 refine it rfl (C2 (L2:=[]) (A3e y0 (va r2.q) r2.k (by first|omega|(simp<;>omega)|(dsimp only;omega)|decide) (by first|omega|(simp<;>omega)|(dsimp only;omega)|decide) (by first|assumption|decide|exact fun x hx=>Nat.le_trans (hrow x hx) (by decide)|exact fun x hx=>Nat.le_trans (of_decide_eq_true (List.all_eq_true.1 hbt x hx)) (by decide)|(intro x hx;simp only [List.nil_append,List.mem_append] at hx;rcases hx with hx|hx<;>first|exact Nat.le_trans (hrow x hx) (by decide)|exact Nat.le_trans (hpt x hx) (by decide))|(intro x hx;rw [List.mem_singleton.1 hx];omega)|exact fun x hx=>Nat.le_trans (hrow x (List.mem_of_mem_take hx)) (by decide)|exact fun x hx=>Nat.le_trans (hrow x (List.mem_of_mem_drop hx)) (by decide)|exact fun x hx=>Nat.le_trans (hrow x (List.mem_of_mem_drop (List.mem_of_mem_take hx))) (by decide)|omega) y3 hy3) rfl rfl rfl rfl rfl (A1.pick [4,6,7,8,9,10,11] rfl) (List.Perm.refl _) (fun ⟨r8,hk9⟩=>((vo cU8 5 r8 y3.1)++([]))) (fun _=>by first|rfl|simp only [List.append_nil,List.cons_append,List.nil_append,List.append_assoc])) fun ⟨r8,hk9⟩=>?_
 have:=VOk.le hk9
 have:=VOk.cap hk9
 try have:=A0z y0 (fun x hx=>Nat.le_trans (hrow x (by first|exact hx|exact List.mem_of_mem_take hx|exact List.mem_of_mem_drop hx)) (by decide));try rw [hy3] at this
 refine A3i [] [] (T:=5) (c:=cU8) (r:=r8) (xs:=y3.1) hk9 (by first|rfl|simp only [List.cons_append,List.append_assoc,List.nil_append,List.append_nil]) ?_
 refine ip' 5 0 [(11,.slice (va r8.q) y3.1.length r8.k),(12,iv y3.2)] ?_
 refine ie (A8 (sr 10 rfl (ip' 3 7 [(50,bv (!decide (y1.2=0)))] ?_)))
 refine zio 3 4 50 53 (!decide (y2.2=0)) (fun g10=>?_) ?_
 ·refine ip' 3 0 [(53,bv (!decide (y2.2=0)))] ?_
  exact zai 2 50 53 g10
 refine ip' 1 3 [(54,bv ((!decide (y1.2=0))||(!decide (y2.2=0))))] ?_
 refine zio 3 0 54 57 (!decide (y3.2=0)) (fun g11=>?_) ?_
 ·have g11p:¬ ((¬ y1.2=0)∨(¬ y2.2=0)):=by simpa using g11
  refine ip' 3 0 [(57,bv (!decide (y3.2=0)))] ?_
  exact zai 2 54 57 g11
 refine ie ?_
 refine zjb rfl hR ?_ ?_<;>clear hR<;>intro hR h12
 ·refine sr 1 rfl (ip' 1 0 [(4,bv false)] ?_)
  subst hR
  refine ie (A9 ?_)
  exact F1 hr hD
 refine A6 (nx (sr 26 rfl (ip' 3 23 [(60,bv (decide ((0:Int)<(Int.tmod (at_.toNat:Int) ((y0.length:Int)+1)))))] ?_)))
 refine zid 5 18 60 65 (decide ((Int.tmod (at_.toNat:Int) ((y0.length:Int)+1))<(y0.length:Int))) (fun g13 g13p=>?_) ?_
 ·refine ip' 5 0 [(65,bv (decide ((Int.tmod (at_.toNat:Int) ((y0.length:Int)+1))<(y0.length:Int))))] ?_
  exact zai 2 60 65 g13
 refine ip' 1 17 [(66,bv ((decide ((0:Int)<(Int.tmod (at_.toNat:Int) ((y0.length:Int)+1))))&&(decide ((Int.tmod (at_.toNat:Int) ((y0.length:Int)+1))<(y0.length:Int)))))] ?_
 refine zia 8 9 66 74 (decide ((y0.getD ((Int.tmod (at_.toNat:Int) ((y0.length:Int)+1)).toNat - 1) Act.zero).kind=39)) (fun g14=>?_) ?_
 ·have g14p:((0:Int)<(Int.tmod (at_.toNat:Int) ((y0.length:Int)+1)))∧((Int.tmod (at_.toNat:Int) ((y0.length:Int)+1))<(y0.length:Int)):=by simpa using g14
  refine ip' 2 6 [(67,.slice (va r2.q) y0.length r2.k),(68,iv (Int.tmod (at_.toNat:Int) ((y0.length:Int)+1)))] ?_
  refine ix rfl (M6 rfl rfl rfl rfl (by omega)) ?_
  refine O8 5 rfl (by omega) fun a15 hq16=>?_
  refine ix rfl (L8 A3q rfl rfl hq16 rfl ((Int.tmod (at_.toNat:Int) ((y0.length:Int)+1)).toNat - 1) (by omega) (by omega)) ?_
  refine ip' 1 3 [(71,pa (Addr.add a15 (((Int.tmod (at_.toNat:Int) ((y0.length:Int)+1)).toNat - 1) * 6)))] ?_
  refine ix rfl (F2 (v:=iv ((y0.getD ((Int.tmod (at_.toNat:Int) ((y0.length:Int)+1)).toNat - 1) Act.zero).kind)) (us:=[iv ((y0.getD ((Int.tmod (at_.toNat:Int) ((y0.length:Int)+1)).toNat - 1) Act.zero).kind)]) ty3 rfl rfl (A3x (N7 (c:=A5) (sz:=6) hq16 (fun _=>rfl) 5 rfl (gd Act.zero (by omega))) (ws:=[iv ((y0.getD ((Int.tmod (at_.toNat:Int) ((y0.length:Int)+1)).toNat - 1) Act.zero).kind)]) 1 rfl) rfl) ?_
  refine ip' 2 0 [(74,bv (decide ((y0.getD ((Int.tmod (at_.toNat:Int) ((y0.length:Int)+1)).toNat - 1) Act.zero).kind=39)))] ?_
  exact zai 8 66 74 g14
 refine ip' 1 8 [(75,bv (((decide ((0:Int)<(Int.tmod (at_.toNat:Int) ((y0.length:Int)+1))))&&(decide ((Int.tmod (at_.toNat:Int) ((y0.length:Int)+1))<(y0.length:Int))))&&(decide ((y0.getD ((Int.tmod (at_.toNat:Int) ((y0.length:Int)+1)).toNat - 1) Act.zero).kind=39))))] ?_
 refine zia 7 1 75 82 (decide ((y0.getD ((Int.tmod (at_.toNat:Int) ((y0.length:Int)+1)).toNat) Act.zero).kind=39)) (fun g17=>?_) ?_
 ·have g17p:(((0:Int)<(Int.tmod (at_.toNat:Int) ((y0.length:Int)+1)))∧((Int.tmod (at_.toNat:Int) ((y0.length:Int)+1))<(y0.length:Int)))∧((y0.getD ((Int.tmod (at_.toNat:Int) ((y0.length:Int)+1)).toNat - 1) Act.zero).kind=39):=by simpa using g17
  refine ip' 2 5 [(76,.slice (va r2.q) y0.length r2.k),(77,iv (Int.tmod (at_.toNat:Int) ((y0.length:Int)+1)))] ?_
  refine O8 5 rfl (by omega) fun a18 hq19=>?_
  refine ix rfl (L8 A3q rfl rfl hq19 rfl ((Int.tmod (at_.toNat:Int) ((y0.length:Int)+1)).toNat) (by omega) (by omega)) ?_
  refine ip' 1 3 [(79,pa (Addr.add a18 (((Int.tmod (at_.toNat:Int) ((y0.length:Int)+1)).toNat) * 6)))] ?_
  refine ix rfl (F2 (v:=iv ((y0.getD ((Int.tmod (at_.toNat:Int) ((y0.length:Int)+1)).toNat) Act.zero).kind)) (us:=[iv ((y0.getD ((Int.tmod (at_.toNat:Int) ((y0.length:Int)+1)).toNat) Act.zero).kind)]) ty3 rfl rfl (A3x (N7 (c:=A5) (sz:=6) hq19 (fun _=>rfl) 5 rfl (gd Act.zero (by omega))) (ws:=[iv ((y0.getD ((Int.tmod (at_.toNat:Int) ((y0.length:Int)+1)).toNat) Act.zero).kind)]) 1 rfl) rfl) ?_
  refine ip' 2 0 [(82,bv (decide ((y0.getD ((Int.tmod (at_.toNat:Int) ((y0.length:Int)+1)).toNat) Act.zero).kind=39)))] ?_
  exact zai 7 75 82 g17
 refine ip' 1 0 [(13,bv ((((decide ((0:Int)<(Int.tmod (at_.toNat:Int) ((y0.length:Int)+1))))&&(decide ((Int.tmod (at_.toNat:Int) ((y0.length:Int)+1))<(y0.length:Int))))&&(decide ((y0.getD ((Int.tmod (at_.toNat:Int) ((y0.length:Int)+1)).toNat - 1) Act.zero).kind=39)))&&(decide ((y0.getD ((Int.tmod (at_.toNat:Int) ((y0.length:Int)+1)).toNat) Act.zero).kind=39))))] ?_
 refine ie (A8 (sr 12 rfl (ip' 3 9 [(85,bv (!((((decide ((0:Int)<(Int.tmod (at_.toNat:Int) ((y0.length:Int)+1))))&&(decide ((Int.tmod (at_.toNat:Int) ((y0.length:Int)+1))<(y0.length:Int))))&&(decide ((y0.getD ((Int.tmod (at_.toNat:Int) ((y0.length:Int)+1)).toNat - 1) Act.zero).kind=39)))&&(decide ((y0.getD ((Int.tmod (at_.toNat:Int) ((y0.length:Int)+1)).toNat) Act.zero).kind=39)))))] ?_)))
 refine zia 9 0 85 94 (!(decide (y3.1=(y1.1++y2.1)))) (fun g20=>?_) ?_
 ·refine ip' 1 8 [(86,.slice (va r8.q) y3.1.length r8.k)] ?_
  refine ix rfl (A3d Tryz.underlying9 Tryz.underlying30 rfl rfl (B0 0 rfl) rfl (by kernel_rfl)) ?_
  refine ip' 1 6 [(88,.slice (va r4.q) y1.1.length r4.k)] ?_
  refine ix rfl (A3d Tryz.underlying9 Tryz.underlying30 rfl rfl (B0 3 rfl) rfl (by kernel_rfl)) ?_
  refine ip' 1 4 [(90,.slice (va r6.q) y2.1.length r6.k)] ?_
  refine ix rfl (A3d Tryz.underlying9 Tryz.underlying30 rfl rfl (B0 1 rfl) rfl (by kernel_rfl)) ?_
  refine ix rfl (zst rfl rfl rfl) ?_
  have:=@List.length_append _ y1.1 y2.1
  refine ix rfl (Z2 rfl rfl rfl) ?_
  refine ip' 1 0 [(94,bv (!(decide (y3.1=(y1.1++y2.1)))))] ?_
  exact zai 10 85 94 g20
 refine ie ?_
 refine zjb rfl hR ?_ ?_<;>clear hR<;>intro hR h21
 ·refine sr 1 rfl (ip' 1 0 [(4,bv false)] ?_)
  subst hR
  refine ie (A9 ?_)
  exact F1 hr hD
 refine A6 (nx (A8 (sr 1 rfl (ip' 1 0 [(14,iv 0)] ?_))))
 refine ie (B3 (C9v (fun (i:Nat)=>(i≤y0.length∧N6 y0 y1 y2 y3 (y0.drop i) i=R,[(5,.slice (va r2.q) y0.length r2.k),(7,.slice (va r4.q) y1.1.length r4.k),(9,.slice (va r6.q) y2.1.length r6.k),(11,.slice (va r8.q) y3.1.length r8.k),(14,iv (i:Int))],[],[sl cU8 (va r8.q) y3.1,sl cU8 (va r6.q) y2.1,sl A5 (B5h (va r2.q) ((Int.tmod (at_.toNat:Int) ((y0.length:Int)+1)).toNat) 6 r2.k) (y0.drop ((Int.tmod (at_.toNat:Int) ((y0.length:Int)+1)).toNat)),sl cU8 (va r4.q) y1.1,sl A5 (va r2.q) (y0.take ((Int.tmod (at_.toNat:Int) ((y0.length:Int)+1)).toNat)),sl A5 (va r2.q) y0,sl L4 lq l,B4u,B4t,Q0,O7,K9,S1],y0.length - i)) 0 ⟨(by omega),hR⟩ (mk [] rfl) A1.refl ?_))
 rintro i ⟨hm22,hR⟩
 have hex:(y0.getD i Act.zero).text.length≤100000000:=B7p (fun x hx=>Nat.le_trans (hrow x hx) (by decide)) (by decide) i
 refine A8 (sr 4 rfl (ip' 4 0 [(98,bv (decide ((i:Int)<(y0.length:Int))))] ?_))
 refine ie (A1r rfl (fun h23=>?_) (fun h23=>?_))
 ·have h23p:(i:Int)<(y0.length:Int):=by simpa using h23
  rw [A4m Act.zero (show i<y0.length by omega)] at hR;replace hR:=(N6.eq_2 ..).symm.trans hR
  refine A6 (nx (A8 (B3 (sr 10 rfl (ip' 2 8 [(102,.slice (va r2.q) y0.length r2.k),(103,iv (i:Int))] ?_)))))
  refine O8 5 rfl (by omega) fun a24 hq25=>?_
  refine ix rfl (L8 A3q rfl rfl hq25 rfl i rfl (by omega)) ?_
  refine ix rfl (V7 (us:=A5 (y0.getD i Act.zero)) A3v rfl rfl (N7 (c:=A5) (sz:=6) hq25 (fun _=>rfl) 5 rfl (gd Act.zero (by omega))) rfl) ?_
  have hQ:=D4 hR;clear hR;obtain ⟨y4,hy4,hR⟩:=hQ
  refine it rfl (C2 (L2:=[]) (D1q (y0.getD i Act.zero) (by first|omega|(refine E5a ?_ ?_ ?_ ?_ ?_ ?_ _<;>(first|omega|(dsimp only;omega)|(dsimp only;simp only [List.length_take,List.length_nil];omega)|exact Nat.zero_le _))|(dsimp only;omega)|(dsimp only;simp only [List.length_take,List.length_nil];omega)) y4 hy4) rfl rfl rfl rfl rfl (A1.pick [7,8,9,10,11,12] rfl) (List.Perm.refl _) (fun ⟨r26,hk27⟩=>((vo cU8 5 r26 y4.1)++([]))) (fun _=>by first|rfl|simp only [List.append_nil,List.cons_append,List.nil_append,List.append_assoc])) fun ⟨r26,hk27⟩=>?_
  have:=VOk.le hk27
  have:=VOk.cap hk27
  refine A3i [] [] (T:=5) (c:=cU8) (r:=r26) (xs:=y4.1) hk27 (by first|rfl|simp only [List.cons_append,List.append_assoc,List.nil_append,List.append_nil]) ?_
  refine ip' 5 0 [(15,.slice (va r26.q) y4.1.length r26.k),(16,iv y4.2)] ?_
  refine ie (sr 11 rfl (ip' 3 8 [(110,.slice (va r2.q) y0.length r2.k),(111,iv (i:Int)),(112,iv (i:Int))] ?_))
  refine ix rfl (B5 rfl rfl rfl rfl (by omega)) ?_
  refine D8 (D0u (c:=A5) (sz:=6) (xs:=y0) (B0 6 rfl) i (i+1) r2.k (fun _=>rfl) rfl (by omega) (by omega)) ?_
  refine ix rfl (B1z (n':=((y0.drop i).take ((i+1) - i)).length) A3q rfl rfl i (i+1) r2.k (A3l rfl rfl) (A3l rfl (by omega)) A5i (by omega) (by omega) (by omega) (by first|rfl|omega|(simp<;>omega)|(simp;done)) rfl) ?_
  have:=@List.length_drop _ i y0
  have:=@List.length_take _ ((i+1) - i) (y0.drop i)
  have hQ:=D4 hR;clear hR;obtain ⟨y5,hy5,hR⟩:=hQ
  refine it rfl (C2 (L2:=[]) (A3e ((y0.drop i).take ((i+1) - i)) (B5h (va r2.q) i 6 r2.k) (r2.k - i) (by first|omega|(simp<;>omega)|(dsimp only;omega)|decide) (by first|omega|(simp<;>omega)|(dsimp only;omega)|decide) (by first|assumption|decide|exact fun x hx=>Nat.le_trans (hrow x hx) (by decide)|exact fun x hx=>Nat.le_trans (of_decide_eq_true (List.all_eq_true.1 hbt x hx)) (by decide)|(intro x hx;simp only [List.nil_append,List.mem_append] at hx;rcases hx with hx|hx<;>first|exact Nat.le_trans (hrow x hx) (by decide)|exact Nat.le_trans (hpt x hx) (by decide))|(intro x hx;rw [List.mem_singleton.1 hx];omega)|exact fun x hx=>Nat.le_trans (hrow x (List.mem_of_mem_take hx)) (by decide)|exact fun x hx=>Nat.le_trans (hrow x (List.mem_of_mem_drop hx)) (by decide)|exact fun x hx=>Nat.le_trans (hrow x (List.mem_of_mem_drop (List.mem_of_mem_take hx))) (by decide)|omega) y5 hy5) rfl rfl rfl rfl rfl (A1.pick [0,9,10,11,12,13,14] rfl) (List.Perm.refl _) (fun ⟨r28,hk29⟩=>((vo cU8 5 r28 y5.1)++([]))) (fun _=>by first|rfl|simp only [List.append_nil,List.cons_append,List.nil_append,List.append_assoc])) fun ⟨r28,hk29⟩=>?_
  have:=VOk.le hk29
  have:=VOk.cap hk29
  try have:=A0z ((y0.drop i).take ((i+1) - i)) (fun x hx=>Nat.le_trans (hrow x (by first|exact hx|exact List.mem_of_mem_take hx|exact List.mem_of_mem_drop hx)) (by decide));try rw [hy5] at this
  refine A3i [] [] (T:=5) (c:=cU8) (r:=r28) (xs:=y5.1) hk29 (by first|rfl|simp only [List.cons_append,List.append_assoc,List.nil_append,List.append_nil]) ?_
  refine ip' 5 0 [(17,.slice (va r28.q) y5.1.length r28.k),(18,iv y5.2)] ?_
  refine ie (sr 18 rfl (ip' 3 15 [(120,bv (!decide (y4.2=0)))] ?_))
  refine zio 3 12 120 123 (!decide (y5.2=0)) (fun g30=>?_) ?_
  ·refine ip' 3 0 [(123,bv (!decide (y5.2=0)))] ?_
   exact zai 2 120 123 g30
  refine ip' 1 11 [(124,bv ((!decide (y4.2=0))||(!decide (y5.2=0))))] ?_
  refine zio 6 5 124 130 (!(decide (y4.1=y5.1))) (fun g31=>?_) ?_
  ·have g31p:¬ ((¬ y4.2=0)∨(¬ y5.2=0)):=by simpa using g31
   refine ip' 1 5 [(125,.slice (va r26.q) y4.1.length r26.k)] ?_
   refine ix rfl (A3d Tryz.underlying9 Tryz.underlying30 rfl rfl (B0 2 rfl) rfl (by kernel_rfl)) ?_
   refine ip' 1 3 [(127,.slice (va r28.q) y5.1.length r28.k)] ?_
   refine ix rfl (A3d Tryz.underlying9 Tryz.underlying30 rfl rfl (B0 0 rfl) rfl (by kernel_rfl)) ?_
   refine ix rfl (Z2 rfl rfl rfl) ?_
   refine ip' 1 0 [(130,bv (!(decide (y4.1=y5.1))))] ?_
   exact zai 7 124 130 g31
  refine ip' 1 4 [(131,bv (((!decide (y4.2=0))||(!decide (y5.2=0)))||(!(decide (y4.1=y5.1)))))] ?_
  refine zio 4 0 131 135 (decide ((y4.1.length:Int)=0)) (fun g32=>?_) ?_
  ·have g32p:¬ (((¬ y4.2=0)∨(¬ y5.2=0))∨(¬ y4.1=y5.1)):=by simpa using g32
   refine ip' 4 0 [(135,bv (decide ((y4.1.length:Int)=0)))] ?_
   exact zai 2 131 135 g32
  refine ie ?_
  refine zjb rfl hR ?_ ?_<;>clear hR<;>intro hR h33
  ·refine sr 1 rfl (ip' 1 0 [(4,bv false)] ?_)
   subst hR
   refine ie (A9 ?_)
   exact F1 hr hD
  refine A6 (nx (A2 3 rfl (ip' 1 2 [(99,iv (i:Int))] ?_)))
  refine ix rfl (B5 rfl rfl rfl rfl (by omega)) ?_
  refine ip' 1 0 [(14,iv ((i:Int)+1))] ?_
  refine A3 ?_
  exact C8g (z1:=i) (i+1) ⟨(by omega),hR⟩ (by (try dsimp only);omega) (mk [] rfl) (A1.pick [3,4,5,6,7,8,9,10,11,12,13,14,15] rfl)
 have h23p:¬ ((i:Int)<(y0.length:Int)):=by simpa using h23
 rw [A4n h23p] at hR;replace hR:=(N6.eq_1 ..).symm.trans hR
 refine I1 (nx (sr 9 rfl (ip' 6 3 [(137,iv (y3.1.length:Int)),(139,iv (y1.1.length:Int)),(141,iv (y2.1.length:Int))] ?_)))
 refine ix rfl (B5 rfl rfl rfl rfl (by omega)) ?_
 refine ip' 2 0 [(4,bv (decide ((y3.1.length:Int)≤((y1.1.length:Int)+(y2.1.length:Int)))))] ?_
 subst hR
 refine ie (A9 ?_)
 exact F1 hr hD
end Go.Proofs.YtanighkpfmgnbaaGreatDoor
